import Derived.Test.YtefibegfcfbcjaaEngE
import Derived.Test.YtefibegfcfbcjaaEngA
/- The functions as plain functions over data, and that the law answers true for all arguments. Customs: along drawn deeds a house stays in order, money and goods balance, and a lot is gone only where it was bound for it. -/
set_option linter.unusedSimpArgs false
set_option linter.deprecated false
set_option linter.unusedSectionVars false
set_option linter.unusedVariables false
noncomputable section
namespace Go.Sm
structure SLot where
  Id : Int
  Owner : Int
  Many : Int
  Value : Int
  Rate : Int
  State : Int
  Bond : Int
structure STrader where
  Money : Int
  Bond : Int
  Bound : Int
structure SHouse where
  Lots : List SLot
  Traders : List STrader
  Taken : Int
structure SDeed where
  Kind : Int
  Id : Int
  Owner : Int
  Many : Int
  Value : Int
  Rate : Int
  New : Int
structure Sl1Cur where
  b : List Int
  i : Int
  h : Int
def dSLot : SLot := ⟨(0 : Int), (0 : Int), (0 : Int), (0 : Int), (0 : Int), (0 : Int), (0 : Int)⟩
def dSTrader : STrader := ⟨(0 : Int), (0 : Int), (0 : Int)⟩
def dSHouse : SHouse := ⟨[], [], (0 : Int)⟩
def dSDeed : SDeed := ⟨(0 : Int), (0 : Int), (0 : Int), (0 : Int), (0 : Int), (0 : Int), (0 : Int)⟩
def dSl1Cur : Sl1Cur := ⟨[], (0 : Int), (0 : Int)⟩
def laws_big (n : Nat) (code0 : List Int) : Option Bool :=
  some ((decide ((code0.length : Int) > (1048576 : Int))))
def spec_l1New_k0 {R : Type} (n : Nat) (kx0 : Int → Option R) (J : Int → Int → Option R) (code2 : List Int) (h8 : Int) (i9 : Int) : Option R :=
  ix i9 code2.length ((bd (w64 ((w64 (h8 * (131 : Int))) + (w64 (code2.getD i9.toNat (0 : Int))))) fun (v10 : Int) => (bd (w64 (((BitVec.ofInt 64 (w64 (v10 + (7 : Int))) &&& BitVec.ofInt 64 (1073741823 : Int)).toNat : Nat) : Int)) fun (v11 : Int) => J v11 (w64 (i9 + (1 : Int))))))
def spec_l1New_L3 {R : Type} (n : Nat) (kx0 : Int → Option R) (J : Int → Int → Option R) (code2 : List Int) (h3 : Int) (i4 : Int) : Option R :=
  (bif (decide (i4 < (code2.length : Int))) then (bif (decide (i4 < (4000 : Int))) then spec_l1New_k0 n kx0 J code2 h3 i4 else kx0 h3) else kx0 h3)
def spec_l1New (n : Nat) (code0 : List Int) : Option Sl1Cur :=
  (bd (w64 ((59059 : Int) + (code0.length : Int))) fun (v1 : Int) => loopN (fun (x : Int × Int) J' => spec_l1New_L3 n (fun h16 => some ((⟨code0, (0 : Int), h16⟩ : Sl1Cur))) (fun h17 i18 => J' (h17, i18)) code0 x.1 x.2) n (v1, (0 : Int)))
def spec_l1Byte (n : Nat) (c0 : Sl1Cur) : Option (Int × Sl1Cur) :=
  (bd (w64 (c0.h * (6364136223846793005 : Int))) fun (v1 : Int) => (bd (w64 (v1 + (1442695040888963407 : Int))) fun (v2 : Int) => (bd (Int.fdiv v2 (2 ^ (min (33 : Int).toNat 64))) fun (v3 : Int) => (bd (Int.fdiv v2 (2 ^ (min (45 : Int).toNat 64))) fun (v4 : Int) => (bd (w64 (((BitVec.ofInt 64 v3 ^^^ BitVec.ofInt 64 v4).toNat : Nat) : Int)) fun (v5 : Int) => (bd (w64 (((BitVec.ofInt 64 v5 &&& BitVec.ofInt 64 (255 : Int)).toNat : Nat) : Int)) fun (v6 : Int) => (bif (decide (c0.i < (c0.b.length : Int))) then ix c0.i c0.b.length ((bd (w64 (v6 + (w64 (c0.b.getD c0.i.toNat (0 : Int))))) fun (v7 : Int) => (bd (w64 (((BitVec.ofInt 64 v7 &&& BitVec.ofInt 64 (255 : Int)).toNat : Nat) : Int)) fun (v8 : Int) => some (v8, (⟨c0.b, (w64 (c0.i + (1 : Int))), v2⟩ : Sl1Cur))))) else some (v6, (⟨c0.b, c0.i, v2⟩ : Sl1Cur)))))))))
def spec_l1Below_k0 (n : Nat)  (n1 : Int) (p3 : Sl1Cur) : Option (Int × Sl1Cur) :=
  (spec_l1Byte n p3).bind fun r4 => (spec_l1Byte n r4.2).bind fun r5 => (spec_l1Byte n r5.2).bind fun r6 => (spec_l1Byte n r6.2).bind fun r7 => (bd (w64 (r4.1 * (16777216 : Int))) fun (v8 : Int) => (bd (w64 (r5.1 * (65536 : Int))) fun (v9 : Int) => (bd (w64 (r6.1 * (256 : Int))) fun (v10 : Int) => (bd (w64 ((w64 (v8 + v9)) + v10)) fun (v11 : Int) => (bif decide (n1 = 0) then none else (bd (Int.tmod (w64 (v11 + r7.1)) n1) fun (v12 : Int) => some (v12, r7.2)))))))
def spec_l1Below (n : Nat) (c0 : Sl1Cur) (n1 : Int) : Option (Int × Sl1Cur) :=
  (bif (decide (n1 ≤ (0 : Int))) then some ((0 : Int), c0) else (bif (decide (n1 ≤ (256 : Int))) then (spec_l1Byte n c0).bind fun r13 => (bif decide (n1 = 0) then none else some ((Int.tmod r13.1 n1), r13.2)) else spec_l1Below_k0 n  n1 c0))
def spec_l1PickInt (n : Nat) (c0 : Sl1Cur) (list1 : List Int) : Option (Int × Sl1Cur) :=
  (spec_l1Below n c0 (list1.length : Int)).bind fun r1 => ix r1.1 list1.length (some ((list1.getD r1.1.toNat (0 : Int)), r1.2))
def spec_l16DrawDeed (n : Nat) (c0 : Sl1Cur) : Option (SDeed × Sl1Cur) :=
  (spec_l1Below n c0 (8 : Int)).bind fun r1 => (spec_l1Below n r1.2 (8 : Int)).bind fun r2 => (spec_l1Below n r2.2 (3 : Int)).bind fun r3 => (spec_l1Below n r3.2 (20 : Int)).bind fun r4 => (spec_l1Below n r4.2 (50 : Int)).bind fun r5 => (spec_l1PickInt n r5.2 [(0 : Int), (100 : Int), (250 : Int), (1000 : Int), (33 : Int)]).bind fun r6 => (spec_l1Below n r6.2 (12 : Int)).bind fun r7 => (spec_l1Below n r7.2 (50 : Int)).bind fun r8 => (bif (decide (r8.1 = (0 : Int))) then (spec_l1PickInt n r8.2 [(0 : Int), (9 : Int)]).bind fun r9 => some ((⟨r9.1, (w64 ((1 : Int) + r2.1)), r3.1, (w64 ((1 : Int) + r4.1)), r5.1, r6.1, (w64 ((1 : Int) + r7.1))⟩ : SDeed), r9.2) else (bif (decide (r8.1 = (1 : Int))) then (spec_l1PickInt n r8.2 [(0 : Int), (1000000 : Int), (1000001 : Int)]).bind fun r18 => some ((⟨(w64 ((1 : Int) + r1.1)), r18.1, r3.1, (w64 ((1 : Int) + r4.1)), r5.1, r6.1, (w64 ((1 : Int) + r7.1))⟩ : SDeed), r18.2) else (bif (decide (r8.1 = (2 : Int))) then (spec_l1PickInt n r8.2 [(-1 : Int), (10 : Int)]).bind fun r27 => some ((⟨(w64 ((1 : Int) + r1.1)), (w64 ((1 : Int) + r2.1)), r27.1, (w64 ((1 : Int) + r4.1)), r5.1, r6.1, (w64 ((1 : Int) + r7.1))⟩ : SDeed), r27.2) else (bif (decide (r8.1 = (3 : Int))) then (spec_l1PickInt n r8.2 [(0 : Int), (1000000 : Int), (1000001 : Int)]).bind fun r36 => some ((⟨(w64 ((1 : Int) + r1.1)), (w64 ((1 : Int) + r2.1)), r3.1, r36.1, r5.1, r6.1, (w64 ((1 : Int) + r7.1))⟩ : SDeed), r36.2) else (bif (decide (r8.1 = (4 : Int))) then (spec_l1PickInt n r8.2 [(-1 : Int), (1000000 : Int), (1000001 : Int)]).bind fun r45 => some ((⟨(w64 ((1 : Int) + r1.1)), (w64 ((1 : Int) + r2.1)), r3.1, (w64 ((1 : Int) + r4.1)), r45.1, r6.1, (w64 ((1 : Int) + r7.1))⟩ : SDeed), r45.2) else (bif (decide (r8.1 = (5 : Int))) then (spec_l1PickInt n r8.2 [(-1 : Int), (5000 : Int), (5001 : Int)]).bind fun r54 => some ((⟨(w64 ((1 : Int) + r1.1)), (w64 ((1 : Int) + r2.1)), r3.1, (w64 ((1 : Int) + r4.1)), r5.1, r54.1, (w64 ((1 : Int) + r7.1))⟩ : SDeed), r54.2) else (bif (decide (r8.1 = (6 : Int))) then (spec_l1PickInt n r8.2 [(0 : Int), (1000000 : Int), (1000001 : Int)]).bind fun r63 => some ((⟨(w64 ((1 : Int) + r1.1)), (w64 ((1 : Int) + r2.1)), r3.1, (w64 ((1 : Int) + r4.1)), r5.1, r6.1, r63.1⟩ : SDeed), r63.2) else some ((⟨(w64 ((1 : Int) + r1.1)), (w64 ((1 : Int) + r2.1)), r3.1, (w64 ((1 : Int) + r4.1)), r5.1, r6.1, (w64 ((1 : Int) + r7.1))⟩ : SDeed), r8.2))))))))
def spec_l16Copy (n : Nat) (h0 : SHouse) : Option SHouse :=
  chk (decide (h0.Lots.length * 56 ≤ 140737488355328)) (chk (decide (h0.Traders.length * 24 ≤ 140737488355328)) (some (h0)))
def spec_l1In (n : Nat) (x0 : Int) (a1 : Int) (b2 : Int) : Option Bool :=
  (bif (decide (x0 ≥ a1)) then some ((decide (x0 ≤ b2))) else some (false))
def spec_Duty6 (n : Nat) (many0 : Int) (value1 : Int) (rate2 : Int) : Option (Int × Bool) :=
  (spec_l1In n many0 (1 : Int) (1000000 : Int)).bind fun r1 => (bif (!r1) then some ((0 : Int), false) else (spec_l1In n value1 (0 : Int) (1000000 : Int)).bind fun r2 => (bif (!r2) then some ((0 : Int), false) else (spec_l1In n rate2 (0 : Int) (5000 : Int)).bind fun r3 => (bif (!r3) then some ((0 : Int), false) else (bd (w64 ((w64 (many0 * value1)) * rate2)) fun (v9 : Int) => (bd (w64 (Int.tdiv v9 (1000 : Int))) fun (v10 : Int) => some (v10, true))))))
def spec_HouseOk_k0 {R : Type} (n : Nat) (kx0 : List Int → Option R) (kxr : Bool → Option R) (J : Int → List Int → Option R) (i43 : Int) (h4 : SHouse) (bound44 : List Int) (x45 : SLot) : Option R :=
  ix x45.Owner bound44.length (chk (decide (x45.Owner.toNat < bound44.length)) ((bd (w64 ((bound44.getD x45.Owner.toNat (0 : Int)) + (0 : Int))) fun (v46 : Int) => ix x45.Owner bound44.length (chk (decide (x45.Owner.toNat < bound44.length)) ((bd (bound44.set x45.Owner.toNat v46) fun (l47 : List Int) => J (w64 (i43 + (1 : Int))) l47))))))
def spec_HouseOk_k1 {R : Type} (n : Nat) (kx0 : List Int → Option R) (kxr : Bool → Option R) (J : Int → List Int → Option R) (i57 : Int) (duty58 : Int) (h4 : SHouse) (bound59 : List Int) (x60 : SLot) : Option R :=
  ix x60.Owner bound59.length (chk (decide (x60.Owner.toNat < bound59.length)) ((bd (w64 ((bound59.getD x60.Owner.toNat (0 : Int)) + duty58)) fun (v61 : Int) => ix x60.Owner bound59.length (chk (decide (x60.Owner.toNat < bound59.length)) ((bd (bound59.set x60.Owner.toNat v61) fun (l62 : List Int) => J (w64 (i57 + (1 : Int))) l62))))))
def spec_HouseOk_k2 {R : Type} (n : Nat) (kx0 : List Int → Option R) (kxr : Bool → Option R) (J : Int → List Int → Option R) (i31 : Int) (duty32 : Int) (t33 : Bool) (h4 : SHouse) (bound34 : List Int) (x35 : SLot) : Option R :=
  (bif t33 then kxr false else (bif (!(decide (x35.State = (3 : Int)))) then (bif (!(decide (x35.Bond = (0 : Int)))) then kxr false else spec_HouseOk_k0 n kx0 kxr J i31 h4 bound34 x35) else (bif (!(decide (x35.Bond = duty32))) then kxr false else spec_HouseOk_k1 n kx0 kxr J i31 duty32 h4 bound34 x35)))
def spec_HouseOk_k3 {R : Type} (n : Nat) (kx0 : List Int → Option R) (kxr : Bool → Option R) (J : Int → List Int → Option R) (i6 : Int) (h4 : SHouse) (bound7 : List Int) : Option R :=
  ix i6 h4.Lots.length ((bd (h4.Lots.getD i6.toNat dSLot) fun (e8 : SLot) => (spec_Duty6 n e8.Many e8.Value e8.Rate).bind fun r9 => (bif (!r9.2) then kxr false else (spec_l1In n e8.Id (1 : Int) (1000000 : Int)).bind fun r14 => (bif (!r14) then kxr false else (bif (decide (i6 > (0 : Int))) then ix (w64 (i6 - (1 : Int))) h4.Lots.length ((bd (h4.Lots.getD ((w64 (i6 - (1 : Int))).toNat) dSLot) fun (e19 : SLot) => (bif (decide (e19.Id ≥ e8.Id)) then kxr false else (bd (w64 ((h4.Traders.length : Int) - (1 : Int))) fun (v24 : Int) => (spec_l1In n e8.Owner (0 : Int) v24).bind fun r25 => (bif (!r25) then kxr false else (spec_l1In n e8.State (1 : Int) (5 : Int)).bind fun r30 => spec_HouseOk_k2 n kx0 kxr J i6 r9.1 (!r30) h4 bound7 e8))))) else (bd (w64 ((h4.Traders.length : Int) - (1 : Int))) fun (v83 : Int) => (spec_l1In n e8.Owner (0 : Int) v83).bind fun r84 => (bif (!r84) then kxr false else (spec_l1In n e8.State (1 : Int) (5 : Int)).bind fun r89 => spec_HouseOk_k2 n kx0 kxr J i6 r9.1 (!r89) h4 bound7 e8)))))))
def spec_HouseOk_L5 {R : Type} (n : Nat) (kx0 : List Int → Option R) (kxr : Bool → Option R) (J : Int → List Int → Option R) (i3 : Int) (h4 : SHouse) (bound5 : List Int) : Option R :=
  (bif (decide (i3 < (h4.Lots.length : Int))) then spec_HouseOk_k3 n kx0 kxr J i3 h4 bound5 else kx0 bound5)
def spec_HouseOk_k4 {R : Type} (n : Nat) (kx2 : Option R) (kxr : Bool → Option R) (J : Int → Option R) (i99 : Int) (h97 : SHouse) (bound98 : List Int) : Option R :=
  ix i99 h97.Traders.length ((bd (h97.Traders.getD i99.toNat dSTrader) fun (e100 : STrader) => (spec_l1In n e100.Money (0 : Int) (1000000000000000 : Int)).bind fun r101 => (bif (!r101) then kxr false else (spec_l1In n e100.Bond (0 : Int) (1000000000000000 : Int)).bind fun r103 => (bif (!r103) then kxr false else (spec_l1In n e100.Bound (0 : Int) e100.Bond).bind fun r105 => (bif (!r105) then kxr false else ix i99 bound98.length (chk (decide (i99.toNat < bound98.length)) ((bif (!(decide (e100.Bound = (bound98.getD i99.toNat (0 : Int))))) then kxr false else J (w64 (i99 + (1 : Int)))))))))))
def spec_HouseOk_L17 {R : Type} (n : Nat) (kx2 : Option R) (kxr : Bool → Option R) (J : Int → Option R) (i96 : Int) (h97 : SHouse) (bound98 : List Int) : Option R :=
  (bif (decide (i96 < (h97.Traders.length : Int))) then spec_HouseOk_k4 n kx2 kxr J i96 h97 bound98 else kx2)
def spec_HouseOk_k5 (n : Nat)  (h0 : SHouse) : Option Bool :=
  chk (decide ((0 : Int) ≤ (h0.Traders.length : Int))) (chk (decide ((h0.Traders.length : Int) ≤ (h0.Traders.length : Int))) (chk (decide ((h0.Traders.length : Int) ≤ 9223372036854775807 ∧ (h0.Traders.length : Int) * (8 : Int) ≤ 281474976710656)) (loopN (fun (x : Int × List Int) J' => spec_HouseOk_L5 n (fun bound95 => loopN (fun (x : Int) J' => spec_HouseOk_L17 n (some (true)) (fun t111 => some (t111)) J' x h0 bound95) n ((0 : Int))) (fun t113 => some (t113)) (fun i114 bound115 => J' (i114, bound115)) x.1 h0 x.2) n ((0 : Int), (List.replicate (h0.Traders.length : Int).toNat (0 : Int))))))
def spec_HouseOk (n : Nat) (h0 : SHouse) : Option Bool :=
  (bif (decide ((h0.Lots.length : Int) > (40 : Int))) then some (false) else (bif (decide ((h0.Traders.length : Int) > (10 : Int))) then some (false) else (spec_l1In n h0.Taken (0 : Int) (1000000000000000 : Int)).bind fun r1 => (bif (!r1) then some (false) else spec_HouseOk_k5 n  h0)))
def spec_l16Bad_k0 (n : Nat)  (h0 : SHouse) (d1 : SDeed) : Option Bool :=
  (bif (decide (d1.Kind = (1 : Int))) then (spec_Duty6 n d1.Many d1.Value d1.Rate).bind fun r5 => (bif (!r5.2) then some (true) else (bd (w64 ((h0.Traders.length : Int) - (1 : Int))) fun (v6 : Int) => (spec_l1In n d1.Owner (0 : Int) v6).bind fun r7 => some ((!r7)))) else (bif (decide (d1.Kind = (8 : Int))) then (bif (decide (d1.Many < (1 : Int))) then some (true) else (spec_l1In n d1.New (1 : Int) (1000000 : Int)).bind fun r9 => some ((!r9))) else some (false)))
def spec_l16Bad (n : Nat) (h0 : SHouse) (d1 : SDeed) : Option Bool :=
  (spec_HouseOk n h0).bind fun r1 => (bif (!r1) then some (true) else (spec_l1In n d1.Kind (1 : Int) (8 : Int)).bind fun r2 => (bif (!r2) then some (true) else (spec_l1In n d1.Id (1 : Int) (1000000 : Int)).bind fun r3 => (bif (!r3) then some (true) else spec_l16Bad_k0 n  h0 d1)))
def spec_l16Find_L2 {R : Type} (n : Nat) (kx0 : Option R) (kxr : Int → Option R) (J : Int → Option R) (id1 : Int) (i2 : Int) (h3 : SHouse) : Option R :=
  (bif (decide (i2 < (h3.Lots.length : Int))) then ix i2 h3.Lots.length ((bd (h3.Lots.getD i2.toNat dSLot) fun (e7 : SLot) => (bif (decide (e7.Id = id1)) then kxr i2 else J (w64 (i2 + (1 : Int)))))) else kx0)
def spec_l16Find (n : Nat) (h0 : SHouse) (id1 : Int) : Option Int :=
  loopN (fun (x : Int) J' => spec_l16Find_L2 n (some ((-1 : Int))) (fun t9 => some (t9)) J' id1 x h0) n ((0 : Int))
def spec_l16With_L2 {R : Type} (n : Nat) (kx0 : Int → Option R) (J : Int → Option R) (k1 : Int) (h2 : SHouse) (x3 : SLot) (t4 : Int) (c5 : List SLot) (c6 : List STrader) : Option R :=
  (bif (decide (k1 < (h2.Lots.length : Int))) then ix k1 h2.Lots.length ((bd (h2.Lots.getD k1.toNat dSLot) fun (e7 : SLot) => (bif (decide (e7.Id < x3.Id)) then J (w64 (k1 + (1 : Int))) else kx0 k1))) else kx0 k1)
def spec_l16With (n : Nat) (h0 : SHouse) (x1 : SLot) : Option SHouse :=
  loopN (fun (x : Int) J' => spec_l16With_L2 n (fun k13 => chk (decide ((0 : Int) ≤ k13)) (chk (decide (k13 ≤ (h0.Lots.length : Int))) ((bd ([x1] ++ (h0.Lots.drop k13.toNat)) fun (l14 : List SLot) => chk (decide (l14.length * 56 ≤ 140737488355328)) (chk (decide ((0 : Int) ≤ k13)) (chk (decide (k13 ≤ (h0.Lots.length : Int))) (chk (decide ((h0.Lots.take k13.toNat).length * 56 ≤ 140737488355328)) ((bd ((h0.Lots.take k13.toNat) ++ l14) fun (l15 : List SLot) => chk (decide (l15.length * 56 ≤ 140737488355328)) (some ((⟨l15, h0.Traders, h0.Taken⟩ : SHouse)))))))))))) J' x h0 x1 (0 : Int) [] []) n ((0 : Int))
def spec_l16From (n : Nat) (kind0 : Int) : Option Int :=
  (bif (decide (kind0 = (3 : Int))) then some ((2 : Int)) else (bif (decide (kind0 = (6 : Int))) then some ((3 : Int)) else (bif (decide (kind0 = (7 : Int))) then some ((4 : Int)) else some ((1 : Int)))))
def spec_DoDeed_k0 (n : Nat)  (at51 : Int) (out52 : Int) (t53 : List SLot) (t54 : List STrader) (x55 : Int) (x56 : Int) (x57 : Int) (x58 : Int) (x59 : Int) (x60 : Int) (t61 : STrader) : Option (SHouse × Int) :=
  ix at51 t53.length (chk (decide (at51.toNat < t53.length)) ((bd (t53.set at51.toNat (⟨x55, x56, x57, x58, x59, (2 : Int), x60⟩ : SLot)) fun (l62 : List SLot) => ix x56 t54.length (chk (decide (x56.toNat < t54.length)) (some ((⟨l62, (t54.set x56.toNat t61), out52⟩ : SHouse), (0 : Int)))))))
def spec_DoDeed_k1 (n : Nat)  (at63 : Int) (out64 : Int) (t65 : List SLot) (t66 : List STrader) (x67 : Int) (x68 : Int) (x69 : Int) (x70 : Int) (x71 : Int) (x72 : Int) (t73 : STrader) : Option (SHouse × Int) :=
  ix at63 t65.length (chk (decide (at63.toNat < t65.length)) ((bd (t65.set at63.toNat (⟨x67, x68, x69, x70, x71, (1 : Int), x72⟩ : SLot)) fun (l74 : List SLot) => ix x68 t66.length (chk (decide (x68.toNat < t66.length)) (some ((⟨l74, (t66.set x68.toNat t73), out64⟩ : SHouse), (0 : Int)))))))
def spec_DoDeed_k2 (n : Nat)  (at98 : Int) (out99 : Int) (t100 : List SLot) (t101 : List STrader) (x102 : Int) (x103 : Int) (x104 : Int) (x105 : Int) (x106 : Int) (x107 : Int) (t108 : Int) (t109 : Int) (t110 : Int) : Option (SHouse × Int) :=
  ix at98 t100.length (chk (decide (at98.toNat < t100.length)) ((bd (t100.set at98.toNat (⟨x102, x103, x104, x105, x106, (4 : Int), x107⟩ : SLot)) fun (l111 : List SLot) => ix x103 t101.length (chk (decide (x103.toNat < t101.length)) ((bd (t101.set x103.toNat (⟨t108, t109, t110⟩ : STrader)) fun (l112 : List STrader) => some ((⟨l111, l112, out99⟩ : SHouse), (0 : Int))))))))
def spec_DoDeed_k3 (n : Nat)  (at157 : Int) (out158 : Int) (t159 : List SLot) (t160 : List STrader) (x161 : Int) (x162 : Int) (x163 : Int) (x164 : Int) (x165 : Int) (x166 : Int) (t167 : Int) (t168 : Int) (t169 : Int) : Option (SHouse × Int) :=
  ix at157 t159.length (chk (decide (at157.toNat < t159.length)) ((bd (t159.set at157.toNat (⟨x161, x162, x163, x164, x165, (3 : Int), x166⟩ : SLot)) fun (l170 : List SLot) => ix x162 t160.length (chk (decide (x162.toNat < t160.length)) ((bd (t160.set x162.toNat (⟨t167, t168, t169⟩ : STrader)) fun (l171 : List STrader) => some ((⟨l170, l171, out158⟩ : SHouse), (0 : Int))))))))
def spec_DoDeed_k4 (n : Nat)  (at187 : Int) (out188 : Int) (t189 : List SLot) (t190 : List STrader) (x191 : Int) (x192 : Int) (x193 : Int) (x194 : Int) (x195 : Int) (t196 : Int) (t197 : Int) (t198 : Int) : Option (SHouse × Int) :=
  ix at187 t189.length (chk (decide (at187.toNat < t189.length)) ((bd (t189.set at187.toNat (⟨x191, x192, x193, x194, x195, (5 : Int), (0 : Int)⟩ : SLot)) fun (l199 : List SLot) => ix x192 t190.length (chk (decide (x192.toNat < t190.length)) ((bd (t190.set x192.toNat (⟨t196, t197, t198⟩ : STrader)) fun (l200 : List STrader) => some ((⟨l199, l200, out188⟩ : SHouse), (0 : Int))))))))
def spec_DoDeed_k5 (n : Nat)  (at201 : Int) (out202 : Int) (t203 : List SLot) (t204 : List STrader) (x205 : Int) (x206 : Int) (x207 : Int) (x208 : Int) (x209 : Int) (x210 : Int) (t211 : STrader) : Option (SHouse × Int) :=
  ix at201 t203.length (chk (decide (at201.toNat < t203.length)) ((bd (t203.set at201.toNat (⟨x205, x206, x207, x208, x209, (5 : Int), x210⟩ : SLot)) fun (l212 : List SLot) => ix x206 t204.length (chk (decide (x206.toNat < t204.length)) (some ((⟨l212, (t204.set x206.toNat t211), out202⟩ : SHouse), (0 : Int)))))))
def spec_DoDeed_k6 (n : Nat)  (at225 : Int) (d1 : SDeed) (out226 : Int) (t227 : List SLot) (t228 : List STrader) (x229 : SLot) : Option (SHouse × Int) :=
  (bd (w64 (x229.Many - d1.Many)) fun (v230 : Int) => ix at225 t227.length (chk (decide (at225.toNat < t227.length)) ((bd (t227.set at225.toNat (⟨x229.Id, x229.Owner, v230, x229.Value, x229.Rate, x229.State, x229.Bond⟩ : SLot)) fun (l231 : List SLot) => (spec_l16With n (⟨l231, t228, out226⟩ : SHouse) (⟨d1.New, x229.Owner, d1.Many, x229.Value, x229.Rate, (1 : Int), (0 : Int)⟩ : SLot)).bind fun r232 => some (r232, (0 : Int))))))
def spec_DoDeed_k7 (n : Nat)  (at238 : Int) (out239 : Int) (t240 : List SLot) (t241 : List STrader) (x242 : SLot) (t243 : STrader) : Option (SHouse × Int) :=
  ix at238 t240.length (chk (decide (at238.toNat < t240.length)) (ix x242.Owner t241.length (chk (decide (x242.Owner.toNat < t241.length)) ((bd (t241.set x242.Owner.toNat t243) fun (l244 : List STrader) => some ((⟨(t240.set at238.toNat x242), l244, out239⟩ : SHouse), (0 : Int)))))))
def spec_DoDeed_k8 (n : Nat)  (at44 : Int) (h0 : SHouse) (d1 : SDeed) (out45 : Int) (t46 : List SLot) (t47 : List STrader) (x48 : SLot) : Option (SHouse × Int) :=
  (spec_Duty6 n x48.Many x48.Value x48.Rate).bind fun r49 => ix x48.Owner h0.Traders.length ((bd (h0.Traders.getD x48.Owner.toNat dSTrader) fun (e50 : STrader) => (bif (decide (d1.Kind = (2 : Int))) then spec_DoDeed_k0 n  at44 out45 t46 t47 x48.Id x48.Owner x48.Many x48.Value x48.Rate x48.Bond e50 else (bif (decide (d1.Kind = (3 : Int))) then spec_DoDeed_k1 n  at44 out45 t46 t47 x48.Id x48.Owner x48.Many x48.Value x48.Rate x48.Bond e50 else (bif (decide (d1.Kind = (4 : Int))) then (bif (decide (e50.Money < r49.1)) then some ((⟨t46, t47, out45⟩ : SHouse), (5 : Int)) else (bif (decide ((w64 (h0.Taken + r49.1)) > (1000000000000000 : Int))) then some ((⟨t46, t47, out45⟩ : SHouse), (5 : Int)) else (bd (w64 (e50.Money - r49.1)) fun (v134 : Int) => spec_DoDeed_k2 n  at44 (w64 (out45 + r49.1)) t46 t47 x48.Id x48.Owner x48.Many x48.Value x48.Rate x48.Bond v134 e50.Bond e50.Bound))) else (bif (decide (d1.Kind = (5 : Int))) then (bd (w64 (e50.Bond - e50.Bound)) fun (v148 : Int) => (bif (decide (v148 < r49.1)) then some ((⟨t46, t47, out45⟩ : SHouse), (5 : Int)) else (bd (w64 (e50.Bound + r49.1)) fun (v172 : Int) => spec_DoDeed_k3 n  at44 out45 t46 t47 x48.Id x48.Owner x48.Many x48.Value x48.Rate r49.1 e50.Money e50.Bond v172))) else (bif (decide (d1.Kind = (6 : Int))) then (bd (w64 (e50.Bound - r49.1)) fun (v186 : Int) => spec_DoDeed_k4 n  at44 out45 t46 t47 x48.Id x48.Owner x48.Many x48.Value x48.Rate e50.Money e50.Bond v186) else (bif (decide (d1.Kind = (7 : Int))) then spec_DoDeed_k5 n  at44 out45 t46 t47 x48.Id x48.Owner x48.Many x48.Value x48.Rate x48.Bond e50 else (bif (decide (d1.Kind = (8 : Int))) then (spec_l16Find n h0 d1.New).bind fun r213 => (bif (decide (r213 ≥ (0 : Int))) then some ((⟨t46, t47, out45⟩ : SHouse), (2 : Int)) else (bif (decide ((h0.Lots.length : Int) = (40 : Int))) then some ((⟨t46, t47, out45⟩ : SHouse), (2 : Int)) else spec_DoDeed_k6 n  at44 d1 out45 t46 t47 x48)) else spec_DoDeed_k7 n  at44 out45 t46 t47 x48 e50)))))))))
def spec_DoDeed_k9 (n : Nat)  (at27 : Int) (h0 : SHouse) (d1 : SDeed) (out28 : Int) (t29 : List SLot) (t30 : List STrader) : Option (SHouse × Int) :=
  ix at27 h0.Lots.length ((bd (h0.Lots.getD at27.toNat dSLot) fun (e31 : SLot) => (spec_l16From n d1.Kind).bind fun r32 => (bif (!(decide (e31.State = r32))) then some ((⟨t29, t30, out28⟩ : SHouse), (4 : Int)) else (bif (decide (d1.Kind = (8 : Int))) then (bif (decide (d1.Many ≥ e31.Many)) then some ((⟨t29, t30, out28⟩ : SHouse), (4 : Int)) else spec_DoDeed_k8 n  at27 h0 d1 out28 t29 t30 e31) else spec_DoDeed_k8 n  at27 h0 d1 out28 t29 t30 e31))))
def spec_DoDeed_k10 (n : Nat)  (h0 : SHouse) (d1 : SDeed) (out3 : Int) (t4 : List SLot) (t5 : List STrader) : Option (SHouse × Int) :=
  (spec_l16Find n h0 d1.Id).bind fun r6 => (bif (decide (d1.Kind = (1 : Int))) then (bif (decide (r6 ≥ (0 : Int))) then some ((⟨t4, t5, out3⟩ : SHouse), (2 : Int)) else (bif (decide ((h0.Lots.length : Int) = (40 : Int))) then some ((⟨t4, t5, out3⟩ : SHouse), (2 : Int)) else (spec_l16With n (⟨t4, t5, out3⟩ : SHouse) (⟨d1.Id, d1.Owner, d1.Many, d1.Value, d1.Rate, (1 : Int), (0 : Int)⟩ : SLot)).bind fun r22 => some (r22, (0 : Int)))) else (bif (decide (r6 < (0 : Int))) then some ((⟨t4, t5, out3⟩ : SHouse), (3 : Int)) else spec_DoDeed_k9 n  r6 h0 d1 out3 t4 t5))
def spec_DoDeed (n : Nat) (h0 : SHouse) (d1 : SDeed) : Option (SHouse × Int) :=
  (spec_l16Copy n h0).bind fun r1 => (spec_l16Bad n h0 d1).bind fun r2 => (bif r2 then some (r1, (1 : Int)) else spec_DoDeed_k10 n  h0 d1 r1.Taken r1.Lots r1.Traders)
def spec_l16Draw_L3 {R : Type} (n : Nat) (kx0 : Sl1Cur → List STrader → Option R) (J : Int → Sl1Cur → List STrader → Option R) (i3 : Int) (p4 : Sl1Cur) (t5 : Int) (c6 : List SLot) (c7 : List STrader) (h8 : Int) (c9 : List SLot) (c10 : List STrader) : Option R :=
  (bif (decide (i3 > (0 : Int))) then (spec_l1Below n p4 (300 : Int)).bind fun r17 => (spec_l1Below n r17.2 (300 : Int)).bind fun r18 => (bd (c10 ++ [(⟨r17.1, r18.1, (0 : Int)⟩ : STrader)]) fun (l19 : List STrader) => chk (decide (l19.length * 24 ≤ 140737488355328)) (J (w64 (i3 - (1 : Int))) r18.2 l19)) else kx0 p4 c10)
def spec_l16Draw_k0 {R : Type} (n : Nat) (kx2 : SHouse → Sl1Cur → Option R) (J : Int → Sl1Cur → SHouse → Option R) (i29 : Int) (p30 : Sl1Cur) (t25 : Int) (c26 : List SLot) (c27 : List STrader) (h31 : SHouse) : Option R :=
  (spec_l16DrawDeed n p30).bind fun r32 => (bif (decide (i29 > (6 : Int))) then (spec_l1Below n r32.2 (h31.Traders.length : Int)).bind fun r33 => (spec_DoDeed n h31 (⟨(1 : Int), r32.1.Id, r33.1, r32.1.Many, r32.1.Value, r32.1.Rate, r32.1.New⟩ : SDeed)).bind fun r47 => J (w64 (i29 - (1 : Int))) r33.2 r47.1 else (spec_DoDeed n h31 r32.1).bind fun r59 => J (w64 (i29 - (1 : Int))) r32.2 r59.1)
def spec_l16Draw_L7 {R : Type} (n : Nat) (kx2 : SHouse → Sl1Cur → Option R) (J : Int → Sl1Cur → SHouse → Option R) (i23 : Int) (p24 : Sl1Cur) (t25 : Int) (c26 : List SLot) (c27 : List STrader) (h28 : SHouse) : Option R :=
  (bif (decide (i23 > (0 : Int))) then spec_l16Draw_k0 n kx2 J i23 p24 t25 c26 c27 h28 else kx2 h28 p24)
def spec_l16Draw (n : Nat) (c0 : Sl1Cur) : Option (SHouse × Sl1Cur) :=
  (spec_l1Below n c0 (100 : Int)).bind fun r1 => (spec_l1Below n r1.2 (3 : Int)).bind fun r2 => loopN (fun (x : Int × Sl1Cur × List STrader) J' => spec_l16Draw_L3 n (fun p20 c21 => (spec_l1Below n p20 (14 : Int)).bind fun r22 => loopN (fun (x : Int × Sl1Cur × SHouse) J' => spec_l16Draw_L7 n (fun h63 p64 => some (h63, p64)) (fun i65 p66 h67 => J' (i65, p66, h67)) x.1 x.2.1 (0 : Int) [] [] x.2.2) n (r22.1, r22.2, (⟨[], c21, r1.1⟩ : SHouse))) (fun i68 p69 c70 => J' (i68, p69, c70)) x.1 x.2.1 (0 : Int) [] [] r1.1 [] x.2.2) n ((w64 ((1 : Int) + r2.1)), r2.2, [])
def spec_DrawHouse_L5 {R : Type} (n : Nat) (kx0 : List SDeed → Option R) (J : Int → Sl1Cur → List SDeed → Option R) (i4 : Int) (t5 : Int) (c6 : List SLot) (c7 : List STrader) (t8 : Sl1Cur) (h9 : SHouse) (list10 : List SDeed) : Option R :=
  (bif (decide (i4 > (0 : Int))) then (spec_l16DrawDeed n t8).bind fun r15 => chk (decide ((list10 ++ [r15.1]).length * 56 ≤ 140737488355328)) (J (w64 (i4 - (1 : Int))) r15.2 (list10 ++ [r15.1])) else kx0 list10)
def spec_DrawHouse (n : Nat) (code0 : List Int) : Option (SHouse × List SDeed) :=
  (spec_l1New n code0).bind fun r1 => (spec_l16Draw n r1).bind fun r2 => (spec_l1Below n r2.2 (30 : Int)).bind fun r3 => loopN (fun (x : Int × Sl1Cur × List SDeed) J' => spec_DrawHouse_L5 n (fun list16 => some (r2.1, list16)) (fun i17 t18 list19 => J' (i17, t18, list19)) x.1 (0 : Int) [] [] x.2.1 r2.1 x.2.2) n (r3.1, r3.2, [])
def impl_own_impl_Lot (n : Nat) (l0 : List SLot) : Option (List SLot) :=
  chk (decide ((0 : Int) ≤ (l0.length : Int))) (chk (decide ((l0.length : Int) ≤ 9223372036854775807 ∧ (l0.length : Int) * (56 : Int) ≤ 281474976710656)) (chk (decide (l0.length * 56 ≤ 140737488355328)) (some (l0))))
def impl_own_impl_Trader (n : Nat) (l0 : List STrader) : Option (List STrader) :=
  chk (decide ((0 : Int) ≤ (l0.length : Int))) (chk (decide ((l0.length : Int) ≤ 9223372036854775807 ∧ (l0.length : Int) * (24 : Int) ≤ 281474976710656)) (chk (decide (l0.length * 24 ≤ 140737488355328)) (some (l0))))
def impl_House_own (n : Nat) (h0 : SHouse) : Option SHouse :=
  (impl_own_impl_Lot n h0.Lots).bind fun r1 => (impl_own_impl_Trader n h0.Traders).bind fun r2 => some ((⟨r1, r2, h0.Taken⟩ : SHouse))
def impl_in (n : Nat) (n0 : Int) (least1 : Int) (most2 : Int) : Option Bool :=
  (bif (decide (n0 ≥ least1)) then some ((decide (n0 ≤ most2))) else some (false))
def impl_idRight (n : Nat) (n0 : Int) : Option Bool :=
  (impl_in n n0 (1 : Int) (1000000 : Int)).bind fun r1 => some (r1)
def impl_lotRight (n : Nat) (many0 : Int) (value1 : Int) (rate2 : Int) : Option Bool :=
  (impl_in n many0 (1 : Int) (1000000 : Int)).bind fun r1 => (bif r1 then (impl_in n value1 (0 : Int) (1000000 : Int)).bind fun r2 => (bif r2 then (impl_in n rate2 (0 : Int) (5000 : Int)).bind fun r3 => some (r3) else some (false)) else some (false))
def impl_Duty6 (n : Nat) (many0 : Int) (value1 : Int) (rate2 : Int) : Option (Int × Bool) :=
  (impl_lotRight n many0 value1 rate2).bind fun r1 => (bif (!r1) then some ((0 : Int), false) else (bd (w64 ((w64 (many0 * value1)) * rate2)) fun (v4 : Int) => (bd (w64 (Int.tdiv v4 (1000 : Int))) fun (v5 : Int) => some (v5, true))))
def impl_Lot_duty (n : Nat) (l0 : SLot) : Option Int :=
  (impl_Duty6 n l0.Many l0.Value l0.Rate).bind fun r1 => some (r1.1)
def impl_HouseOk_k0 {R : Type} (n : Nat) (kx0 : List Int → Option R) (kxr : Bool → Option R) (J : Int → List Int → Option R) (t3 : List SLot) (t4 : Int) (t41 : Int) (h6 : SHouse) (bound42 : List Int) (l43 : SLot) : Option R :=
  ix l43.Owner bound42.length (chk (decide (l43.Owner.toNat < bound42.length)) ((bd (w64 ((bound42.getD l43.Owner.toNat (0 : Int)) + l43.Bond)) fun (v44 : Int) => ix l43.Owner bound42.length (chk (decide (l43.Owner.toNat < bound42.length)) ((bd (bound42.set l43.Owner.toNat v44) fun (l45 : List Int) => J (w64 (t41 + (1 : Int))) l45))))))
def impl_HouseOk_k1 {R : Type} (n : Nat) (kx0 : List Int → Option R) (kxr : Bool → Option R) (J : Int → List Int → Option R) (t3 : List SLot) (t4 : Int) (t33 : Int) (h6 : SHouse) (bound34 : List Int) (l35 : SLot) : Option R :=
  (bif (decide (l35.State = (3 : Int))) then (impl_Lot_duty n l35).bind fun r36 => (bif (!(decide (l35.Bond = r36))) then kxr false else impl_HouseOk_k0 n kx0 kxr J t3 t4 t33 h6 bound34 l35) else (bif (!(decide (l35.Bond = (0 : Int)))) then kxr false else impl_HouseOk_k0 n kx0 kxr J t3 t4 t33 h6 bound34 l35))
def impl_HouseOk_k2 {R : Type} (n : Nat) (kx0 : List Int → Option R) (kxr : Bool → Option R) (J : Int → List Int → Option R) (t3 : List SLot) (t4 : Int) (t8 : Int) (h6 : SHouse) (bound9 : List Int) : Option R :=
  ix t8 t3.length ((bd (t3.getD t8.toNat dSLot) fun (e10 : SLot) => (impl_idRight n e10.Id).bind fun r11 => (bif (!r11) then kxr false else (bif (decide (t8 > (0 : Int))) then ix (w64 (t8 - (1 : Int))) h6.Lots.length ((bd (h6.Lots.getD ((w64 (t8 - (1 : Int))).toNat) dSLot) fun (e15 : SLot) => (bif (decide (e15.Id ≥ e10.Id)) then kxr false else (bd (w64 ((h6.Traders.length : Int) - (1 : Int))) fun (v19 : Int) => (impl_in n e10.Owner (0 : Int) v19).bind fun r20 => (bif (!r20) then kxr false else (impl_lotRight n e10.Many e10.Value e10.Rate).bind fun r24 => (bif (!r24) then kxr false else (impl_in n e10.State (1 : Int) (5 : Int)).bind fun r28 => (bif (!r28) then kxr false else impl_HouseOk_k1 n kx0 kxr J t3 t4 t8 h6 bound9 e10))))))) else (bd (w64 ((h6.Traders.length : Int) - (1 : Int))) fun (v63 : Int) => (impl_in n e10.Owner (0 : Int) v63).bind fun r64 => (bif (!r64) then kxr false else (impl_lotRight n e10.Many e10.Value e10.Rate).bind fun r68 => (bif (!r68) then kxr false else (impl_in n e10.State (1 : Int) (5 : Int)).bind fun r72 => (bif (!r72) then kxr false else impl_HouseOk_k1 n kx0 kxr J t3 t4 t8 h6 bound9 e10))))))))
def impl_HouseOk_L5 {R : Type} (n : Nat) (kx0 : List Int → Option R) (kxr : Bool → Option R) (J : Int → List Int → Option R) (t3 : List SLot) (t4 : Int) (t5 : Int) (h6 : SHouse) (bound7 : List Int) : Option R :=
  (bif (decide (t5 < t4)) then impl_HouseOk_k2 n kx0 kxr J t3 t4 t5 h6 bound7 else kx0 bound7)
def impl_HouseOk_k3 {R : Type} (n : Nat) (kx2 : Option R) (kxr : Bool → Option R) (J : Int → Option R) (t81 : List STrader) (t82 : Int) (t85 : Int) (bound84 : List Int) : Option R :=
  ix t85 t81.length ((bd (t81.getD t85.toNat dSTrader) fun (e86 : STrader) => (impl_in n e86.Money (0 : Int) (1000000000000000 : Int)).bind fun r87 => (bif (!r87) then kxr false else (impl_in n e86.Bond (0 : Int) (1000000000000000 : Int)).bind fun r89 => (bif (!r89) then kxr false else (impl_in n e86.Bound (0 : Int) e86.Bond).bind fun r91 => (bif (!r91) then kxr false else ix t85 bound84.length (chk (decide (t85.toNat < bound84.length)) ((bif (!(decide (e86.Bound = (bound84.getD t85.toNat (0 : Int))))) then kxr false else J (w64 (t85 + (1 : Int)))))))))))
def impl_HouseOk_L17 {R : Type} (n : Nat) (kx2 : Option R) (kxr : Bool → Option R) (J : Int → Option R) (t81 : List STrader) (t82 : Int) (t83 : Int) (bound84 : List Int) : Option R :=
  (bif (decide (t83 < t82)) then impl_HouseOk_k3 n kx2 kxr J t81 t82 t83 bound84 else kx2)
def impl_HouseOk_k4 (n : Nat)  (h0 : SHouse) : Option Bool :=
  chk (decide ((0 : Int) ≤ (h0.Traders.length : Int))) (chk (decide ((h0.Traders.length : Int) ≤ (h0.Traders.length : Int))) (chk (decide ((h0.Traders.length : Int) ≤ 9223372036854775807 ∧ (h0.Traders.length : Int) * (8 : Int) ≤ 281474976710656)) (loopN (fun (x : Int × List Int) J' => impl_HouseOk_L5 n (fun bound80 => loopN (fun (x : Int) J' => impl_HouseOk_L17 n (some (true)) (fun t97 => some (t97)) J' h0.Traders (h0.Traders.length : Int) x bound80) n ((0 : Int))) (fun t99 => some (t99)) (fun t100 bound101 => J' (t100, bound101)) h0.Lots (h0.Lots.length : Int) x.1 h0 x.2) n ((0 : Int), (List.replicate (h0.Traders.length : Int).toNat (0 : Int))))))
def impl_HouseOk (n : Nat) (h0 : SHouse) : Option Bool :=
  (bif (decide ((h0.Lots.length : Int) > (40 : Int))) then some (false) else (bif (decide ((h0.Traders.length : Int) > (10 : Int))) then some (false) else (impl_in n h0.Taken (0 : Int) (1000000000000000 : Int)).bind fun r1 => (bif (!r1) then some (false) else impl_HouseOk_k4 n  h0)))
def impl_House_lot_1 (n : Nat) (l0 : SLot) (a1 : Int) : Option Bool :=
  some ((decide (l0.Id = a1)))
def slices_IndexFunc_impl_Lot_impl_Lot__impl_House_lot_1_L2 {R : Type} (n : Nat) (kx0 : Option R) (kxr : Int → Option R) (J : Int → Option R) (s1 : List SLot) (f2 : Int) (t3 : Int) (t4 : Int) : Option R :=
  (bif (decide (t4 < t3)) then ix t4 s1.length ((bd (s1.getD t4.toNat dSLot) fun (e9 : SLot) => (impl_House_lot_1 n e9 f2).bind fun r10 => (bif r10 then kxr t4 else J (w64 (t4 + (1 : Int)))))) else kx0)
def slices_IndexFunc_impl_Lot_impl_Lot__impl_House_lot_1 (n : Nat) (s0 : List SLot) (f1c0 : Int) : Option Int :=
  loopN (fun (x : Int) J' => slices_IndexFunc_impl_Lot_impl_Lot__impl_House_lot_1_L2 n (some ((-1 : Int))) (fun t12 => some (t12)) J' s0 f1c0 (s0.length : Int) x) n ((0 : Int))
def impl_House_lot (n : Nat) (h0 : SHouse) (id1 : Int) : Option Int :=
  (slices_IndexFunc_impl_Lot_impl_Lot__impl_House_lot_1 n h0.Lots id1).bind fun r1 => some (r1)
def impl_DoDeed_1 (n : Nat) (id0 : Int) (a1 : SHouse) : Option Bool :=
  (impl_House_lot n a1 id0).bind fun r1 => (bif (decide (r1 ≥ (0 : Int))) then some (true) else some ((decide ((a1.Lots.length : Int) = (40 : Int)))))
def impl_House_put_1 (n : Nat) (a0 : SLot) (b1 : SLot) : Option Int :=
  some ((w64 (a0.Id - b1.Id)))
def slices_SortFunc_impl_Lot_impl_Lot__impl_House_put_1 (n : Nat) (l0 : List SLot) : Option (List SLot) :=
  sortL dSLot (fun a b => impl_House_put_1 n a b) l0
def impl_House_put (n : Nat) (h0 : SHouse) (l1 : SLot) : Option SHouse :=
  chk (decide ((h0.Lots ++ [l1]).length * 56 ≤ 140737488355328)) ((slices_SortFunc_impl_Lot_impl_Lot__impl_House_put_1 n (h0.Lots ++ [l1])).bind fun r1 => some ((⟨r1, h0.Traders, h0.Taken⟩ : SHouse)))
def impl_DoDeed_k0 (n : Nat)  (l124 : Nat) (t125 : Nat) (n126 : Int) (x127 : Int) (t128 : List SLot) (t129 : List STrader) : Option (SHouse × Int) :=
  chk (decide (t125 < t129.length)) ((bd (w64 ((t129.getD t125 dSTrader).Money - n126)) fun (v130 : Int) => chk (decide (t125 < t129.length)) ((bd (t129.getD t125 dSTrader) fun (e131 : STrader) => (bd (t129.set t125 (⟨v130, e131.Bond, e131.Bound⟩ : STrader)) fun (l132 : List STrader) => chk (decide (l124 < t128.length)) ((bd (t128.getD l124 dSLot) fun (e133 : SLot) => (bd (t128.set l124 (⟨e133.Id, e133.Owner, e133.Many, e133.Value, e133.Rate, (4 : Int), e133.Bond⟩ : SLot)) fun (l134 : List SLot) => (impl_House_own n (⟨l134, l132, (w64 (x127 + n126))⟩ : SHouse)).bind fun r138 => some (r138, (0 : Int))))))))))
def impl_DoDeed_k1 (n : Nat)  (l148 : Nat) (t149 : Nat) (n150 : Int) (x151 : Int) (t152 : List SLot) (t153 : List STrader) : Option (SHouse × Int) :=
  chk (decide (t149 < t153.length)) ((bd (w64 ((t153.getD t149 dSTrader).Bound + n150)) fun (v154 : Int) => chk (decide (t149 < t153.length)) ((bd (t153.getD t149 dSTrader) fun (e155 : STrader) => (bd (t153.set t149 (⟨e155.Money, e155.Bond, v154⟩ : STrader)) fun (l156 : List STrader) => chk (decide (l148 < t152.length)) ((bd (t152.getD l148 dSLot) fun (e157 : SLot) => (bd (t152.set l148 (⟨e157.Id, e157.Owner, e157.Many, e157.Value, e157.Rate, (3 : Int), e157.Bond⟩ : SLot)) fun (l158 : List SLot) => chk (decide (l148 < l158.length)) ((bd (l158.getD l148 dSLot) fun (e159 : SLot) => (bd (l158.set l148 (⟨e159.Id, e159.Owner, e159.Many, e159.Value, e159.Rate, e159.State, n150⟩ : SLot)) fun (l160 : List SLot) => (impl_House_own n (⟨l160, l156, x151⟩ : SHouse)).bind fun r164 => some (r164, (0 : Int)))))))))))))
def impl_DoDeed_k2 (n : Nat)  (l183 : Nat) (d1 : SDeed) (x184 : Int) (t185 : List SLot) (t186 : List STrader) : Option (SHouse × Int) :=
  chk (decide (l183 < t185.length)) ((bd (w64 ((t185.getD l183 dSLot).Many - d1.Many)) fun (v187 : Int) => chk (decide (l183 < t185.length)) ((bd (t185.getD l183 dSLot) fun (e188 : SLot) => (bd (t185.set l183 (⟨e188.Id, e188.Owner, v187, e188.Value, e188.Rate, e188.State, e188.Bond⟩ : SLot)) fun (l189 : List SLot) => chk (decide (l183 < l189.length)) ((bd (l189.getD l183 dSLot) fun (e190 : SLot) => (impl_House_put n (⟨l189, t186, x184⟩ : SHouse) (⟨d1.New, e190.Owner, d1.Many, e190.Value, e190.Rate, e190.State, e190.Bond⟩ : SLot)).bind fun r191 => (impl_House_own n r191).bind fun r196 => some (r196, (0 : Int)))))))))
def impl_DoDeed_k3 (n : Nat)  (l82 : Nat) (t83 : Nat) (d1 : SDeed) (was84 : Int) (t85 : List SLot) (t86 : List STrader) (x87 : Int) (t88 : List SLot) (t89 : List STrader) : Option (SHouse × Int) :=
  (bif (decide (d1.Kind = (2 : Int))) then chk (decide (l82 < t88.length)) ((bd (t88.getD l82 dSLot) fun (e90 : SLot) => (bd (t88.set l82 (⟨e90.Id, e90.Owner, e90.Many, e90.Value, e90.Rate, (2 : Int), e90.Bond⟩ : SLot)) fun (l91 : List SLot) => (impl_House_own n (⟨l91, t89, x87⟩ : SHouse)).bind fun r96 => some (r96, (0 : Int))))) else (bif (decide (d1.Kind = (3 : Int))) then chk (decide (l82 < t88.length)) ((bd (t88.getD l82 dSLot) fun (e97 : SLot) => (bd (t88.set l82 (⟨e97.Id, e97.Owner, e97.Many, e97.Value, e97.Rate, (1 : Int), e97.Bond⟩ : SLot)) fun (l98 : List SLot) => (impl_House_own n (⟨l98, t89, x87⟩ : SHouse)).bind fun r102 => some (r102, (0 : Int))))) else (bif (decide (d1.Kind = (4 : Int))) then chk (decide (l82 < t88.length)) ((bd (t88.getD l82 dSLot) fun (e103 : SLot) => (impl_Lot_duty n e103).bind fun r104 => chk (decide (t83 < t89.length)) ((bif (decide ((t89.getD t83 dSTrader).Money < r104)) then some ((⟨t85, t86, was84⟩ : SHouse), (5 : Int)) else (bif (decide ((w64 (x87 + r104)) > (1000000000000000 : Int))) then some ((⟨t85, t86, was84⟩ : SHouse), (5 : Int)) else impl_DoDeed_k0 n  l82 t83 r104 x87 t88 t89))))) else (bif (decide (d1.Kind = (5 : Int))) then chk (decide (l82 < t88.length)) ((bd (t88.getD l82 dSLot) fun (e145 : SLot) => (impl_Lot_duty n e145).bind fun r146 => chk (decide (t83 < t89.length)) (chk (decide (t83 < t89.length)) ((bd (w64 ((t89.getD t83 dSTrader).Bond - (t89.getD t83 dSTrader).Bound)) fun (v147 : Int) => (bif (decide (v147 < r146)) then some ((⟨t85, t86, was84⟩ : SHouse), (5 : Int)) else impl_DoDeed_k1 n  l82 t83 r146 x87 t88 t89)))))) else (bif (decide (d1.Kind = (6 : Int))) then chk (decide (t83 < t89.length)) (chk (decide (l82 < t88.length)) ((bd (w64 ((t89.getD t83 dSTrader).Bound - (t88.getD l82 dSLot).Bond)) fun (v165 : Int) => chk (decide (t83 < t89.length)) ((bd (t89.getD t83 dSTrader) fun (e166 : STrader) => (bd (t89.set t83 (⟨e166.Money, e166.Bond, v165⟩ : STrader)) fun (l167 : List STrader) => chk (decide (l82 < t88.length)) ((bd (t88.getD l82 dSLot) fun (e168 : SLot) => (bd (t88.set l82 (⟨e168.Id, e168.Owner, e168.Many, e168.Value, e168.Rate, (5 : Int), e168.Bond⟩ : SLot)) fun (l169 : List SLot) => chk (decide (l82 < l169.length)) ((bd (l169.getD l82 dSLot) fun (e170 : SLot) => (bd (l169.set l82 (⟨e170.Id, e170.Owner, e170.Many, e170.Value, e170.Rate, e170.State, (0 : Int)⟩ : SLot)) fun (l171 : List SLot) => (impl_House_own n (⟨l171, l167, x87⟩ : SHouse)).bind fun r175 => some (r175, (0 : Int)))))))))))))) else (bif (decide (d1.Kind = (7 : Int))) then chk (decide (l82 < t88.length)) ((bd (t88.getD l82 dSLot) fun (e176 : SLot) => (bd (t88.set l82 (⟨e176.Id, e176.Owner, e176.Many, e176.Value, e176.Rate, (5 : Int), e176.Bond⟩ : SLot)) fun (l177 : List SLot) => (impl_House_own n (⟨l177, t89, x87⟩ : SHouse)).bind fun r181 => some (r181, (0 : Int))))) else (bif (decide (d1.Kind = (8 : Int))) then (impl_DoDeed_1 n d1.New (⟨t88, t89, x87⟩ : SHouse)).bind fun r182 => (bif r182 then some ((⟨t85, t86, was84⟩ : SHouse), (2 : Int)) else impl_DoDeed_k2 n  l82 d1 x87 t88 t89) else (impl_House_own n (⟨t88, t89, x87⟩ : SHouse)).bind fun r200 => some (r200, (0 : Int)))))))))
def impl_DoDeed_k4 (n : Nat)  (l57 : Nat) (t58 : Nat) (d1 : SDeed) (was59 : Int) (t60 : List SLot) (t61 : List STrader) (x62 : Int) (t63 : List SLot) (t64 : List STrader) : Option (SHouse × Int) :=
  chk (decide (l57 < t63.length)) ((bif (!(decide ((t63.getD l57 dSLot).State = (2 : Int)))) then some ((⟨t60, t61, was59⟩ : SHouse), (4 : Int)) else (bif (decide (d1.Kind = (8 : Int))) then chk (decide (l57 < t63.length)) ((bif (decide (d1.Many ≥ (t63.getD l57 dSLot).Many)) then some ((⟨t60, t61, was59⟩ : SHouse), (4 : Int)) else impl_DoDeed_k3 n  l57 t58 d1 was59 t60 t61 x62 t63 t64)) else impl_DoDeed_k3 n  l57 t58 d1 was59 t60 t61 x62 t63 t64)))
def impl_DoDeed_k5 (n : Nat)  (l233 : Nat) (t234 : Nat) (d1 : SDeed) (was235 : Int) (t236 : List SLot) (t237 : List STrader) (x238 : Int) (t239 : List SLot) (t240 : List STrader) : Option (SHouse × Int) :=
  chk (decide (l233 < t239.length)) ((bif (!(decide ((t239.getD l233 dSLot).State = (3 : Int)))) then some ((⟨t236, t237, was235⟩ : SHouse), (4 : Int)) else (bif (decide (d1.Kind = (8 : Int))) then chk (decide (l233 < t239.length)) ((bif (decide (d1.Many ≥ (t239.getD l233 dSLot).Many)) then some ((⟨t236, t237, was235⟩ : SHouse), (4 : Int)) else impl_DoDeed_k3 n  l233 t234 d1 was235 t236 t237 x238 t239 t240)) else impl_DoDeed_k3 n  l233 t234 d1 was235 t236 t237 x238 t239 t240)))
def impl_DoDeed_k6 (n : Nat)  (l282 : Nat) (t283 : Nat) (d1 : SDeed) (was284 : Int) (t285 : List SLot) (t286 : List STrader) (x287 : Int) (t288 : List SLot) (t289 : List STrader) : Option (SHouse × Int) :=
  chk (decide (l282 < t288.length)) ((bif (!(decide ((t288.getD l282 dSLot).State = (4 : Int)))) then some ((⟨t285, t286, was284⟩ : SHouse), (4 : Int)) else (bif (decide (d1.Kind = (8 : Int))) then chk (decide (l282 < t288.length)) ((bif (decide (d1.Many ≥ (t288.getD l282 dSLot).Many)) then some ((⟨t285, t286, was284⟩ : SHouse), (4 : Int)) else impl_DoDeed_k3 n  l282 t283 d1 was284 t285 t286 x287 t288 t289)) else impl_DoDeed_k3 n  l282 t283 d1 was284 t285 t286 x287 t288 t289)))
def impl_DoDeed_k7 (n : Nat)  (l331 : Nat) (t332 : Nat) (d1 : SDeed) (was333 : Int) (t334 : List SLot) (t335 : List STrader) (x336 : Int) (t337 : List SLot) (t338 : List STrader) : Option (SHouse × Int) :=
  chk (decide (l331 < t337.length)) ((bif (!(decide ((t337.getD l331 dSLot).State = (1 : Int)))) then some ((⟨t334, t335, was333⟩ : SHouse), (4 : Int)) else (bif (decide (d1.Kind = (8 : Int))) then chk (decide (l331 < t337.length)) ((bif (decide (d1.Many ≥ (t337.getD l331 dSLot).Many)) then some ((⟨t334, t335, was333⟩ : SHouse), (4 : Int)) else impl_DoDeed_k3 n  l331 t332 d1 was333 t334 t335 x336 t337 t338)) else impl_DoDeed_k3 n  l331 t332 d1 was333 t334 t335 x336 t337 t338)))
def impl_DoDeed_k8 (n : Nat)  (i50 : Int) (d1 : SDeed) (was51 : Int) (t52 : List SLot) (t53 : List STrader) (x54 : Int) (t55 : List SLot) (t56 : List STrader) : Option (SHouse × Int) :=
  ix i50 t55.length (chk (decide (i50.toNat < t55.length)) (ix ((t55.getD i50.toNat dSLot).Owner) t56.length ((bif (decide (d1.Kind = (3 : Int))) then impl_DoDeed_k4 n  i50.toNat (((t55.getD i50.toNat dSLot).Owner).toNat) d1 was51 t52 t53 x54 t55 t56 else (bif (decide (d1.Kind = (6 : Int))) then impl_DoDeed_k5 n  i50.toNat (((t55.getD i50.toNat dSLot).Owner).toNat) d1 was51 t52 t53 x54 t55 t56 else (bif (decide (d1.Kind = (7 : Int))) then impl_DoDeed_k6 n  i50.toNat (((t55.getD i50.toNat dSLot).Owner).toNat) d1 was51 t52 t53 x54 t55 t56 else impl_DoDeed_k7 n  i50.toNat (((t55.getD i50.toNat dSLot).Owner).toNat) d1 was51 t52 t53 x54 t55 t56))))))
def impl_DoDeed_k9 (n : Nat)  (h0 : SHouse) (d1 : SDeed) (was31 : Int) (t32 : List SLot) (t33 : List STrader) : Option (SHouse × Int) :=
  (impl_House_own n h0).bind fun r34 => (bif (decide (d1.Kind = (1 : Int))) then (impl_DoDeed_1 n d1.Id r34).bind fun r35 => (bif r35 then some ((⟨t32, t33, was31⟩ : SHouse), (2 : Int)) else (impl_House_put n r34 (⟨d1.Id, d1.Owner, d1.Many, d1.Value, d1.Rate, (1 : Int), (0 : Int)⟩ : SLot)).bind fun r41 => (impl_House_own n r41).bind fun r42 => some (r42, (0 : Int))) else (impl_House_lot n r34 d1.Id).bind fun r380 => (bif (decide (r380 < (0 : Int))) then some ((⟨t32, t33, was31⟩ : SHouse), (3 : Int)) else impl_DoDeed_k8 n  r380 d1 was31 t32 t33 r34.Taken r34.Lots r34.Traders))
def impl_DoDeed (n : Nat) (h0 : SHouse) (d1 : SDeed) : Option (SHouse × Int) :=
  (impl_House_own n h0).bind fun r1 => (impl_HouseOk n h0).bind fun r2 => (bif (!r2) then some (r1, (1 : Int)) else (impl_in n d1.Kind (1 : Int) (8 : Int)).bind fun r6 => (bif (!r6) then some (r1, (1 : Int)) else (impl_idRight n d1.Id).bind fun r10 => (bif (!r10) then some (r1, (1 : Int)) else (bif (decide (d1.Kind = (1 : Int))) then (bd (w64 ((h0.Traders.length : Int) - (1 : Int))) fun (v14 : Int) => (impl_in n d1.Owner (0 : Int) v14).bind fun r15 => (bif (!r15) then some (r1, (1 : Int)) else (impl_lotRight n d1.Many d1.Value d1.Rate).bind fun r19 => (bif (!r19) then some (r1, (1 : Int)) else (bif (decide (d1.Kind = (8 : Int))) then (bif (decide (d1.Many < (1 : Int))) then some (r1, (1 : Int)) else (impl_idRight n d1.New).bind fun r26 => (bif (!r26) then some (r1, (1 : Int)) else impl_DoDeed_k9 n  h0 d1 r1.Taken r1.Lots r1.Traders)) else impl_DoDeed_k9 n  h0 d1 r1.Taken r1.Lots r1.Traders)))) else (bif (decide (d1.Kind = (8 : Int))) then (bif (decide (d1.Many < (1 : Int))) then some (r1, (1 : Int)) else (impl_idRight n d1.New).bind fun r403 => (bif (!r403) then some (r1, (1 : Int)) else impl_DoDeed_k9 n  h0 d1 r1.Taken r1.Lots r1.Traders)) else impl_DoDeed_k9 n  h0 d1 r1.Taken r1.Lots r1.Traders)))))
def impl_own_int (n : Nat) (l0 : List Int) : Option (List Int) :=
  chk (decide ((0 : Int) ≤ (l0.length : Int))) (chk (decide ((l0.length : Int) ≤ 9223372036854775807 ∧ (l0.length : Int) * (8 : Int) ≤ 281474976710656)) (chk (decide (l0.length * 8 ≤ 140737488355328)) (some (l0))))
def impl_RunDeeds_k0 {R : Type} (n : Nat) (kx0 : Int → List SLot → List STrader → List Int → Option R) (J : Int → Int → List SLot → List STrader → List Int → Option R) (t5 : List SDeed) (t6 : Int) (t15 : Int) (h16 : Int) (c17 : List SLot) (c18 : List STrader) (t11 : Int) (c12 : List SLot) (c13 : List STrader) (codes19 : List Int) : Option R :=
  ix t15 t5.length ((bd (t5.getD t15.toNat dSDeed) fun (e20 : SDeed) => (impl_DoDeed n (⟨c17, c18, h16⟩ : SHouse) e20).bind fun r21 => chk (decide ((codes19 ++ [r21.2]).length * 8 ≤ 140737488355328)) (J (w64 (t15 + (1 : Int))) r21.1.Taken r21.1.Lots r21.1.Traders (codes19 ++ [r21.2]))))
def impl_RunDeeds_L6 {R : Type} (n : Nat) (kx0 : Int → List SLot → List STrader → List Int → Option R) (J : Int → Int → List SLot → List STrader → List Int → Option R) (t5 : List SDeed) (t6 : Int) (t7 : Int) (h8 : Int) (c9 : List SLot) (c10 : List STrader) (t11 : Int) (c12 : List SLot) (c13 : List STrader) (codes14 : List Int) : Option R :=
  (bif (decide (t7 < t6)) then impl_RunDeeds_k0 n kx0 J t5 t6 t7 h8 c9 c10 t11 c12 c13 codes14 else kx0 h8 c9 c10 codes14)
def impl_RunDeeds_k1 (n : Nat)  (list1 : List SDeed) (h2 : Int) (t3 : List SLot) (t4 : List STrader) : Option (SHouse × List Int) :=
  loopN (fun (x : Int × Int × List SLot × List STrader × List Int) J' => impl_RunDeeds_L6 n (fun h22 c23 c24 codes25 => (impl_own_int n codes25).bind fun r26 => some ((⟨c23, c24, h22⟩ : SHouse), r26)) (fun t27 h28 c29 c30 codes31 => J' (t27, h28, c29, c30, codes31)) list1 (list1.length : Int) x.1 x.2.1 x.2.2.1 x.2.2.2.1 (0 : Int) [] [] x.2.2.2.2) n ((0 : Int), h2, t3, t4, [])
def impl_RunDeeds (n : Nat) (h0 : SHouse) (list1 : List SDeed) : Option (SHouse × List Int) :=
  (impl_House_own n h0).bind fun r1 => (bif (decide ((list1.length : Int) > (200 : Int))) then some (r1, []) else impl_RunDeeds_k1 n  list1 r1.Taken r1.Lots r1.Traders)
def laws_FnCustoms_k0 {R : Type} (n : Nat) (kx2 : Int → Option R) (J : Int → Int → Option R) (list32 : List SDeed) (i33 : Int) (x34 : Int) (lost42 : Int) (k43 : Int) (h37 : SHouse) (now38 : SHouse) (next39 : Int) (c40 : List SLot) (c41 : List STrader) : Option R :=
  ix k43 c41.length (chk (decide (k43.toNat < c41.length)) ((bd (w64 (lost42 + (c41.getD k43.toNat dSTrader).Money)) fun (v44 : Int) => ix k43 now38.Traders.length ((bd (now38.Traders.getD k43.toNat dSTrader) fun (e45 : STrader) => J (w64 (v44 - e45.Money)) (w64 (k43 + (1 : Int))))))))
def laws_FnCustoms_L13 {R : Type} (n : Nat) (kx2 : Int → Option R) (J : Int → Int → Option R) (list32 : List SDeed) (i33 : Int) (x34 : Int) (lost35 : Int) (k36 : Int) (h37 : SHouse) (now38 : SHouse) (next39 : Int) (c40 : List SLot) (c41 : List STrader) : Option R :=
  (bif (decide (k36 < (now38.Traders.length : Int))) then laws_FnCustoms_k0 n kx2 J list32 i33 x34 lost35 k36 h37 now38 next39 c40 c41 else kx2 lost35)
def laws_FnCustoms_L20 {R : Type} (n : Nat) (kx4 : Int → Option R) (J : Int → Int → Option R) (list66 : List SDeed) (i67 : Int) (x68 : Int) (many69 : Int) (before70 : Int) (k71 : Int) (h72 : SHouse) (now73 : SHouse) (next74 : Int) (c75 : List SLot) (c76 : List STrader) : Option R :=
  (bif (decide (k71 < (c75.length : Int))) then ix k71 c75.length (chk (decide (k71.toNat < c75.length)) ((bd (w64 (many69 + (c75.getD k71.toNat dSLot).Many)) fun (v80 : Int) => J v80 (w64 (k71 + (1 : Int)))))) else kx4 many69)
def laws_FnCustoms_k1 {R : Type} (n : Nat) (kx8 : Option R) (kxr : Bool → Option R) (J : Int → Option R) (list98 : List SDeed) (i99 : Int) (x100 : Int) (many101 : Int) (before102 : Int) (k103 : Int) (j111 : Int) (h105 : SHouse) (now106 : SHouse) (next107 : Int) (c108 : List SLot) (c109 : List STrader) (was110 : SLot) : Option R :=
  ix j111 c108.length (chk (decide (j111.toNat < c108.length)) ((bd (c108.getD j111.toNat dSLot) fun (e112 : SLot) => (bif (decide (e112.Id = was110.Id)) then (bif (decide (e112.State = (5 : Int))) then (bif (!(decide (was110.State = (5 : Int)))) then (bif (!(decide (was110.State = (4 : Int)))) then (bif (!(decide (was110.State = (3 : Int)))) then kxr false else J (w64 (j111 + (1 : Int)))) else J (w64 (j111 + (1 : Int)))) else J (w64 (j111 + (1 : Int)))) else J (w64 (j111 + (1 : Int)))) else J (w64 (j111 + (1 : Int)))))))
def laws_FnCustoms_L29 {R : Type} (n : Nat) (kx8 : Option R) (kxr : Bool → Option R) (J : Int → Option R) (list98 : List SDeed) (i99 : Int) (x100 : Int) (many101 : Int) (before102 : Int) (k103 : Int) (j104 : Int) (h105 : SHouse) (now106 : SHouse) (next107 : Int) (c108 : List SLot) (c109 : List STrader) (was110 : SLot) : Option R :=
  (bif (decide (j104 < (c108.length : Int))) then laws_FnCustoms_k1 n kx8 kxr J list98 i99 x100 many101 before102 k103 j104 h105 now106 next107 c108 c109 was110 else kx8)
def laws_FnCustoms_k2 {R : Type} (n : Nat) (kx6 : Int → Option R) (kxr : Bool → Option R) (J : Int → Int → Option R) (list82 : List SDeed) (i83 : Int) (x84 : Int) (many85 : Int) (before93 : Int) (k94 : Int) (h88 : SHouse) (now89 : SHouse) (next90 : Int) (c91 : List SLot) (c92 : List STrader) : Option R :=
  ix k94 now89.Lots.length ((bd (now89.Lots.getD k94.toNat dSLot) fun (e95 : SLot) => (bd (w64 (before93 + e95.Many)) fun (v96 : Int) => ix k94 now89.Lots.length ((bd (now89.Lots.getD k94.toNat dSLot) fun (e97 : SLot) => loopN (fun (x : Int) J' => laws_FnCustoms_L29 n (J v96 (w64 (k94 + (1 : Int)))) (fun t126 => kxr t126) J' list82 i83 x84 many85 v96 k94 x h88 now89 next90 c91 c92 e97) n ((0 : Int)))))))
def laws_FnCustoms_L24 {R : Type} (n : Nat) (kx6 : Int → Option R) (kxr : Bool → Option R) (J : Int → Int → Option R) (list82 : List SDeed) (i83 : Int) (x84 : Int) (many85 : Int) (before86 : Int) (k87 : Int) (h88 : SHouse) (now89 : SHouse) (next90 : Int) (c91 : List SLot) (c92 : List STrader) : Option R :=
  (bif (decide (k87 < (now89.Lots.length : Int))) then laws_FnCustoms_k2 n kx6 kxr J list82 i83 x84 many85 before86 k87 h88 now89 next90 c91 c92 else kx6 before86)
def laws_FnCustoms_k3 {R : Type} (n : Nat) (kx0 : SHouse → Option R) (kxr : Bool → Option R) (J : Int → SHouse → Option R) (list3 : List SDeed) (i130 : Int) (many131 : Int) (before132 : Int) (t133 : Bool) (h5 : SHouse) (now134 : SHouse) (next135 : Int) (c136 : List SLot) (c137 : List STrader) : Option R :=
  (bif t133 then ix i130 list3.length ((bd (list3.getD i130.toNat dSDeed) fun (e138 : SDeed) => (bd (w64 (before132 + e138.Many)) fun (v139 : Int) => (bif (!(decide (many131 = v139))) then kxr false else J (w64 (i130 + (1 : Int))) (⟨c136, c137, next135⟩ : SHouse))))) else (bif (!(decide (many131 = before132))) then kxr false else J (w64 (i130 + (1 : Int))) (⟨c136, c137, next135⟩ : SHouse)))
def laws_FnCustoms_k4 {R : Type} (n : Nat) (kx0 : SHouse → Option R) (kxr : Bool → Option R) (J : Int → SHouse → Option R) (list3 : List SDeed) (i60 : Int) (x61 : Int) (h5 : SHouse) (now62 : SHouse) (next63 : Int) (c64 : List SLot) (c65 : List STrader) : Option R :=
  loopN (fun (x : Int × Int) J' => laws_FnCustoms_L20 n (fun many81 => loopN (fun (x : Int × Int) J' => laws_FnCustoms_L24 n (fun before128 => (bif (decide (x61 = (0 : Int))) then ix i60 list3.length ((bd (list3.getD i60.toNat dSDeed) fun (e129 : SDeed) => laws_FnCustoms_k3 n kx0 kxr J list3 i60 many81 before128 (decide (e129.Kind = (1 : Int))) h5 now62 next63 c64 c65)) else (bif (!(decide (many81 = before128))) then kxr false else J (w64 (i60 + (1 : Int))) (⟨c64, c65, next63⟩ : SHouse)))) (fun t224 => kxr t224) (fun before225 k226 => J' (before225, k226)) list3 i60 x61 many81 x.1 x.2 h5 now62 next63 c64 c65) n ((0 : Int), (0 : Int))) (fun many227 k228 => J' (many227, k228)) list3 i60 x61 x.1 (0 : Int) x.2 h5 now62 next63 c64 c65) n ((0 : Int), (0 : Int))
def laws_FnCustoms_k5 {R : Type} (n : Nat) (kx0 : SHouse → Option R) (kxr : Bool → Option R) (J : Int → SHouse → Option R) (list3 : List SDeed) (i25 : Int) (x26 : Int) (h5 : SHouse) (now27 : SHouse) (next28 : Int) (t29 : List SLot) (t30 : List STrader) : Option R :=
  (bd (w64 (next28 - now27.Taken)) fun (v31 : Int) => loopN (fun (x : Int × Int) J' => laws_FnCustoms_L13 n (fun lost46 => (bif (!(decide (lost46 = (0 : Int)))) then kxr false else (bif (!(decide (x26 = (0 : Int)))) then (bif (!(decide (next28 = now27.Taken))) then kxr false else laws_FnCustoms_k4 n kx0 kxr J list3 i25 x26 h5 now27 next28 t29 t30) else laws_FnCustoms_k4 n kx0 kxr J list3 i25 x26 h5 now27 next28 t29 t30))) (fun lost253 k254 => J' (lost253, k254)) list3 i25 x26 x.1 x.2 h5 now27 next28 t29 t30) n (v31, (0 : Int)))
def laws_FnCustoms_k6 {R : Type} (n : Nat) (kx0 : SHouse → Option R) (kxr : Bool → Option R) (J : Int → SHouse → Option R) (list3 : List SDeed) (i7 : Int) (h5 : SHouse) (now8 : SHouse) : Option R :=
  ix i7 list3.length ((bd (list3.getD i7.toNat dSDeed) fun (e9 : SDeed) => (impl_DoDeed n now8 e9).bind fun r10 => (impl_HouseOk n r10.1).bind fun r11 => (bif (!r11) then kxr false else (bif (!(decide ((r10.1.Traders.length : Int) = (now8.Traders.length : Int)))) then kxr false else laws_FnCustoms_k5 n kx0 kxr J list3 i7 r10.2 h5 now8 r10.1.Taken r10.1.Lots r10.1.Traders))))
def laws_FnCustoms_L6 {R : Type} (n : Nat) (kx0 : SHouse → Option R) (kxr : Bool → Option R) (J : Int → SHouse → Option R) (list3 : List SDeed) (i4 : Int) (h5 : SHouse) (now6 : SHouse) : Option R :=
  (bif (decide (i4 < (list3.length : Int))) then laws_FnCustoms_k6 n kx0 kxr J list3 i4 h5 now6 else kx0 now6)
def laws_FnCustoms_k7 (n : Nat)  (code0 : List Int) : Option Bool :=
  (spec_DrawHouse n code0).bind fun r2 => loopN (fun (x : Int × SHouse) J' => laws_FnCustoms_L6 n (fun now261 => (impl_RunDeeds n r2.1 r2.2).bind fun r262 => (impl_Duty6 n (3 : Int) (500 : Int) (100 : Int)).bind fun r263 => (bif (decide ((r262.2.length : Int) = (r2.2.length : Int))) then (bif (decide ((r262.1.Lots.length : Int) = (now261.Lots.length : Int))) then (bif (decide (r262.1.Taken = now261.Taken)) then (bif r263.2 then some ((decide (r263.1 = (150 : Int)))) else some (false)) else some (false)) else some (false)) else some (false))) (fun t265 => some (t265)) (fun i266 now267 => J' (i266, now267)) r2.2 x.1 r2.1 x.2) n ((0 : Int), r2.1)
def laws_FnCustoms (n : Nat) (code0 : List Int) : Option Bool :=
  (laws_big n code0).bind fun r1 => (bif r1 then some (true) else laws_FnCustoms_k7 n  code0)
def rng (a b x : Int) : Prop := a ≤ x ∧ x ≤ b
def wfSLot (x : SLot) : Prop := rng (-9223372036854775808) 9223372036854775807 x.Id ∧ rng (-9223372036854775808) 9223372036854775807 x.Owner ∧ rng (-9223372036854775808) 9223372036854775807 x.Many ∧ rng (-9223372036854775808) 9223372036854775807 x.Value ∧ rng (-9223372036854775808) 9223372036854775807 x.Rate ∧ rng (-9223372036854775808) 9223372036854775807 x.State ∧ rng (-9223372036854775808) 9223372036854775807 x.Bond
def wfSTrader (x : STrader) : Prop := rng (-9223372036854775808) 9223372036854775807 x.Money ∧ rng (-9223372036854775808) 9223372036854775807 x.Bond ∧ rng (-9223372036854775808) 9223372036854775807 x.Bound
def wfSHouse (x : SHouse) : Prop := (x.Lots.length ≤ 9223372036854775807 ∧ ∀ y ∈ x.Lots, wfSLot y) ∧ (x.Traders.length ≤ 9223372036854775807 ∧ ∀ y ∈ x.Traders, wfSTrader y) ∧ rng (-9223372036854775808) 9223372036854775807 x.Taken
def wfSDeed (x : SDeed) : Prop := rng (-9223372036854775808) 9223372036854775807 x.Kind ∧ rng (-9223372036854775808) 9223372036854775807 x.Id ∧ rng (-9223372036854775808) 9223372036854775807 x.Owner ∧ rng (-9223372036854775808) 9223372036854775807 x.Many ∧ rng (-9223372036854775808) 9223372036854775807 x.Value ∧ rng (-9223372036854775808) 9223372036854775807 x.Rate ∧ rng (-9223372036854775808) 9223372036854775807 x.New
def wfSl1Cur (x : Sl1Cur) : Prop := (x.b.length ≤ 9223372036854775807 ∧ ∀ y ∈ x.b, rng 0 255 y) ∧ rng (-9223372036854775808) 9223372036854775807 x.i ∧ rng (-9223372036854775808) 9223372036854775807 x.h
end Go.Sm

section
set_option linter.unusedSimpArgs false
set_option linter.deprecated false
set_option linter.unusedSectionVars false
set_option linter.unusedVariables false
namespace Go.Sm
/-! ### Of the words that printed functions are made of -/
theorem w64_id {x : Int} (h1 : -9223372036854775808 ≤ x) (h2 : x ≤ 9223372036854775807) : w64 x = x := by
  show (let m := x % (2 ^ 64 : Int); if (true && decide ((2 : Int) ^ 63 ≤ m)) = true then m - 2 ^ 64 else m) = x
  simp only [Bool.true_and, decide_eq_true_eq]
  split <;> omega
theorem w64_rng (x : Int) : -9223372036854775808 ≤ w64 x ∧ w64 x ≤ 9223372036854775807 := by
  show -9223372036854775808 ≤ (let m := x % (2 ^ 64 : Int); if (true && decide ((2 : Int) ^ 63 ≤ m)) = true then m - 2 ^ 64 else m) ∧ (let m := x % (2 ^ 64 : Int); if (true && decide ((2 : Int) ^ 63 ≤ m)) = true then m - 2 ^ 64 else m) ≤ 9223372036854775807
  simp only [Bool.true_and, decide_eq_true_eq]
  split <;> omega
theorem chk_of {R : Type} {b : Bool} {x : Option R} (h : b = true) : chk b x = x := by rw [h]; rfl
theorem chk_true {R : Type} {x : Option R} : chk true x = x := rfl
theorem chk_dec {R : Type} {p : Prop} [Decidable p] {x : Option R} (h : p) : chk (decide p) x = x := chk_of (decide_eq_true h)
theorem ix_of {R : Type} {i : Int} {len : Nat} {x : Option R} (h0 : 0 ≤ i) (h1 : i < (len : Int)) : ix i len x = x := by
  unfold ix
  rw [decide_eq_true h0, decide_eq_true h1]
  rfl
theorem ix_nat {R : Type} {i len : Nat} {x : Option R} (h1 : i < len) : ix (i : Int) len x = x := ix_of (by omega) (by omega)
theorem bif_dec {α : Type} {p : Prop} [Decidable p] {x y : α} : (bif decide p then x else y) = if p then x else y := by
  by_cases h : p <;> simp [h]
theorem bif_not {α : Type} {b : Bool} {x y : α} : (bif !b then x else y) = bif b then y else x := by cases b <;> rfl
theorem bif_and {α : Type} {a b : Bool} {x y : α} : (bif a && b then x else y) = bif a then (bif b then x else y) else y := by cases a <;> rfl
theorem loopN_succ {X R : Type} (b : X → (X → Option R) → Option R) (m : Nat) (x : X) : loopN b (m + 1) x = b x (loopN b m) := rfl
/-- What holds of a loop: by what is left to go. -/
theorem loopN_ind {X R : Type} {b : X → (X → Option R) → Option R} (μ : X → Nat) (I : X → Prop) (Q : X → Option R → Prop)
    (h : ∀ x J, I x → (∀ y, I y → μ y < μ x → Q y (J y)) → Q x (b x J)) : ∀ n x, I x → μ x < n → Q x (loopN b n x)
  | 0, x, hi, hm => absurd hm (Nat.not_lt_zero _)
  | n + 1, x, hi, hm => h x (loopN b n) hi fun y hy hl => loopN_ind μ I Q h n y hy (by omega)
theorem getD_eq {α : Type} {l : List α} {i : Nat} {d : α} (h : i < l.length) : l.getD i d = l[i] := by
  simp [List.getD, h]
theorem w64_succ {k : Nat} (h : k < 9223372036854775807) : w64 ((k : Int) + 1) = ((k + 1 : Nat) : Int) := by
  rw [w64_id (by omega) (by omega)]
  rfl
theorem take_succ_getD {α : Type} {l : List α} {i : Nat} {d : α} (h : i < l.length) : l.take (i + 1) = l.take i ++ [l.getD i d] := by
  rw [List.take_succ, getD_eq h, List.getElem?_eq_getElem h]
  rfl
theorem drop_getD {α : Type} {l : List α} {i : Nat} {d : α} (h : i < l.length) : l.drop i = l.getD i d :: l.drop (i + 1) := by
  rw [getD_eq h]
  exact List.drop_eq_getElem_cons h
theorem bd_eq {α β : Type} (e : α) (f : α → β) : bd e f = f e := rfl
theorem bd_set {α β : Type} {Q : β → Prop} {F : List α → β} {p : List α} {i : Nat} {x : α} (h : ∀ l : List α, l.length = p.length → Q (F l)) : Q (bd (p.set i x) F) := h _ (by simp)
theorem bd_is {α β : Type} {Q : β → Prop} {F : α → β} {e : α} (h : ∀ v : α, v = e → Q (F v)) : Q (bd e F) := h _ rfl
theorem bd_val {α β : Type} {Q : β → Prop} {F : α → β} {e : α} (h : ∀ v : α, Q (F v)) : Q (bd e F) := h _
theorem chk_q {R : Type} {Q : Option R → Prop} {b : Bool} {x : Option R} (h : b = true) (hx : Q x) : Q (chk b x) := by rw [chk_of h]; exact hx
theorem ix_q {R : Type} {Q : Option R → Prop} {i : Int} {len : Nat} {x : Option R} (h0 : 0 ≤ i) (h1 : i < (len : Int)) (hx : Q x) : Q (ix i len x) := by rw [ix_of h0 h1]; exact hx
theorem bd_upd {α β : Type} {Q : β → Prop} {F : List α → β} {p : List α} {i : Nat} {x d : α} (hi : i < p.length) (h : ∀ l : List α, l.length = p.length → l.getD i d = x → (∀ j, j ≠ i → l.getD j d = p.getD j d) → Q (F l)) : Q (bd (p.set i x) F) :=
  h _ (by simp) (by simp [List.getD, hi]) (fun j hj => by simp [List.getD, List.getElem?_set, Ne.symm hj])
/-- A list written from the front. -/
theorem set_take {α : Type} {a : List α} {d : α} {m k : Nat} (h : k < a.length) (hm : m = a.length := by rfl) : (a.take k ++ (List.replicate m d).drop k).set k (a.getD k d) = a.take (k + 1) ++ (List.replicate m d).drop (k + 1) := by
  subst hm
  have h1 : (a.take k).length = k := by simp; omega
  rw [List.set_append_right _ _ (by omega), h1, Nat.sub_self, take_succ_getD h, List.append_assoc]
  congr 1
  rw [List.drop_eq_getElem_cons (by simp; exact h)]
  rfl
/-! ### Loops over 0 .. len, by what is left -/
/-- Steps k, k+1, .. told one after the other; J: what comes behind a step. -/
def forK {S R : Type} (step : Nat → S → (S → Option R) → Option R) (fin : S → Option R) : Nat → Nat → S → Option R
  | 0, _, s => fin s
  | m + 1, k, s => step k s fun s' => forK step fin m (k + 1) s'
theorem loop_forK {X S R : Type} {b : X → (X → Option R) → Option R} {enc : Nat → S → X} {len : Nat} {step : Nat → S → (S → Option R) → Option R} {fin : S → Option R} (I : Nat → S → Prop)
    (hstep : ∀ k s J J', k < len → I k s → (∀ s', I (k + 1) s' → J (enc (k + 1) s') = J' s') → b (enc k s) J = step k s J') (hfin : ∀ s J, I len s → b (enc len s) J = fin s) :
    ∀ m k s n, k + m = len → m < n → I k s → loopN b n (enc k s) = forK step fin m k s
  | 0, k, s, 0, _, h, _ => absurd h (Nat.lt_irrefl _)
  | 0, k, s, n + 1, hk, _, hi => by
    have hk : k = len := by omega
    subst hk
    exact hfin s _ hi
  | m + 1, k, s, 0, _, h, _ => absurd h (Nat.not_lt_zero _)
  | m + 1, k, s, n + 1, hk, hn, hi => by
    show b (enc k s) (loopN b n) = step k s fun s' => forK step fin m (k + 1) s'
    exact hstep k s _ _ (by omega) hi fun s' hi' => loop_forK I hstep hfin m (k + 1) s' n (by omega) (by omega) hi'
/-- The first k at which f answers; at none: z. -/
def scanK {R : Type} (f : Nat → Option (Option R)) (z : Option R) : Nat → Nat → Option R
  | 0, _ => z
  | m + 1, k => match f k with
    | some r => r
    | none => scanK f z m (k + 1)
theorem loop_scan {X R : Type} {b : X → (X → Option R) → Option R} {enc : Nat → X} {len : Nat} {f : Nat → Option (Option R)} {z : Option R}
    (hstep : ∀ k J, k < len → b (enc k) J = match f k with | some r => r | none => J (enc (k + 1))) (hfin : ∀ J, b (enc len) J = z) :
    ∀ m k n, k + m = len → m < n → loopN b n (enc k) = scanK f z m k
  | 0, k, 0, _, h => absurd h (Nat.lt_irrefl _)
  | 0, k, n + 1, hk, _ => by
    have hk : k = len := by omega
    subst hk
    exact hfin _
  | m + 1, k, 0, _, h => absurd h (Nat.not_lt_zero _)
  | m + 1, k, n + 1, hk, hn => by
    show b (enc k) (loopN b n) = _
    rw [hstep k _ (by omega)]
    unfold scanK
    cases f k with
    | some r => rfl
    | none => exact loop_scan hstep hfin m (k + 1) n (by omega) (by omega)
/-- Is p so of all of k, .. k + m - 1? -/
theorem scan_all {R : Type} {p : Nat → Bool} {r z : Option R} : ∀ m k, scanK (fun k => bif p k then none else some r) z m k = bif (List.range' k m).all p then z else r
  | 0, k => rfl
  | m + 1, k => by
    rw [scanK, List.range'_succ, List.all_cons]
    cases h : p k with
    | true => simp only [cond_true, Bool.true_and]; exact scan_all m (k + 1)
    | false => rfl
theorem scan_any {R : Type} {p : Nat → Bool} {r z : Option R} : ∀ m k, scanK (fun k => bif p k then some r else none) z m k = bif (List.range' k m).any p then r else z
  | 0, k => rfl
  | m + 1, k => by
    rw [scanK, List.range'_succ, List.any_cons]
    cases h : p k with
    | false => simp only [cond_false, Bool.false_or]; exact scan_any m (k + 1)
    | true => rfl
theorem mgetI_mputI {β : Type} (l : List (Int × β)) (n m : Int) (v : β) : mgetI (mputI l n v) m = if m = n then some v else mgetI l m := by
  unfold mgetI mputI
  induction l with
  | nil =>
    by_cases h : m = n <;> simp [h]
  | cons a l ih =>
    rw [List.findIdx?_cons]
    by_cases h : n = a.1
    · simp only [h, decide_true, if_true, Option.elim_some, List.set_cons_zero, List.find?_cons]
      by_cases h2 : m = a.1
      · simp [h2]
      · simp [h2]
    · simp only [h, decide_false, Bool.false_eq_true, if_false]
      cases hf : l.findIdx? (fun e => decide (n = e.1)) with
      | none =>
        rw [hf] at ih
        simp only [Option.elim_none] at ih
        simp only [Option.map_none, Option.elim_none, List.cons_append, List.find?_cons]
        by_cases h2 : m = a.1
        · have : m ≠ n := fun e => h (e ▸ h2)
          simp [h2]
          simp [h2] at this
          simp [this]
        · simp only [h2, decide_false]
          exact ih
      | some i =>
        rw [hf] at ih
        simp only [Option.elim_some] at ih
        simp only [Option.map_some, Option.elim_some, List.set_cons_succ, List.find?_cons]
        by_cases h2 : m = a.1
        · have : m ≠ n := fun e => h (e ▸ h2)
          simp [h2]
          simp [h2] at this
          simp [this]
        · simp only [h2, decide_false]
          exact ih
theorem mgetI_nil {β : Type} (m : Int) : mgetI ([] : List (Int × β)) m = none := rfl
/-! ### Chains of tests -/
theorem bif_and' {α : Type} {a b : Bool} {x y : α} : (bif a then (bif b then x else y) else y) = bif a && b then x else y := by cases a <;> rfl
theorem bif_or' {α : Type} {a b : Bool} {x y : α} : (bif a then y else (bif b then x else y)) = bif !a && b then x else y := by cases a <;> rfl
theorem bif_and2 {α : Type} {a b : Bool} {x y : α} : (bif a then (bif b then y else x) else y) = bif a && !b then x else y := by cases a <;> cases b <;> rfl
theorem bif_or2 {α : Type} {a b : Bool} {x y : α} : (bif a then y else (bif b then y else x)) = bif !a && !b then x else y := by cases a <;> cases b <;> rfl
theorem bif_some {α β : Type} {a : Bool} {x y : α} {f : α → Option β} : (bif a then some x else some y).bind f = bif a then f x else f y := by cases a <;> rfl
theorem bif_tf {a : Bool} : (bif a then some true else some false) = some a := by cases a <;> rfl
theorem bif_ft {a : Bool} : (bif a then some false else some true) = some (!a) := by cases a <;> rfl
theorem bif_sf {a b : Bool} : (bif a then some b else some false) = some (a && b) := by cases a <;> rfl
theorem all_range_succ {p : Nat → Bool} {k : Nat} : (List.range (k + 1)).all p = ((List.range k).all p && p k) := by
  rw [List.range_succ, List.all_append]
  simp
theorem any_range_succ {p : Nat → Bool} {k : Nat} : (List.range (k + 1)).any p = ((List.range k).any p || p k) := by
  rw [List.range_succ, List.any_append]
  simp
theorem all_range_not {p : Nat → Bool} {k m : Nat} (hk : k < m) (h : p k = false) : (List.range m).all p = false := by
  rw [Bool.eq_false_iff]
  intro e
  rw [List.all_eq_true] at e
  rw [e k (List.mem_range.2 hk)] at h
  cases h
theorem any_range_of {p : Nat → Bool} {k m : Nat} (hk : k < m) (h : p k = true) : (List.range m).any p = true := by
  rw [List.any_eq_true]
  exact ⟨k, List.mem_range.2 hk, h⟩
/-- A loop that looks at k = 0, 1, .. and leaves at the first that is not so. -/
theorem loop_all {R : Type} {b : Int → (Int → Option R) → Option R} {len : Nat} {p : Nat → Bool} {no yes : Option R} (hlen : len ≤ 9223372036854775807)
    (hstep : ∀ (k : Nat) (J : Int → Option R), k < len → (∀ j, j < k → p j = true) → b (k : Int) J = bif p k then J ((k + 1 : Nat) : Int) else no) (hfin : ∀ J, (∀ j, j < len → p j = true) → b (len : Int) J = yes) {n : Nat} (hn : len < n) :
    loopN b n (0 : Int) = bif (List.range len).all p then yes else no := by
  refine loopN_ind (fun x => len - x.toNat) (fun x => ∃ k : Nat, k ≤ len ∧ x = (k : Int) ∧ (List.range k).all p = true) (fun x r => r = bif (List.range len).all p then yes else no) ?_ n _ ⟨0, by omega, rfl, rfl⟩ (by simp; omega)
  rintro _ J ⟨k, hk, rfl, hb⟩ ih
  have hb' : ∀ j, j < k → p j = true := fun j hj => List.all_eq_true.1 hb j (List.mem_range.2 hj)
  by_cases h : k < len
  · rw [hstep k J h hb']
    cases hp : p k with
    | true => exact ih _ ⟨k + 1, h, rfl, by rw [all_range_succ, hb, hp]; rfl⟩ (by simp; omega)
    | false => rw [all_range_not h hp]; rfl
  · have : k = len := by omega
    subst this
    rw [hfin _ hb', hb]
    rfl
/-- The same, a state turned on the way (its invariant: I). -/
theorem loop_allS {S R : Type} {X : Type} {enc : Int → S → X} {b : X → (X → Option R) → Option R} {len : Nat} {p : Nat → Bool} {I : Nat → S → Prop} {no yes : Option R}
    (hstep : ∀ (k : Nat) (s : S) (J : X → Option R), k < len → I k s → (∀ j, j < k → p j = true) → ∃ s', (p k = true → I (k + 1) s') ∧ b (enc (k : Int) s) J = bif p k then J (enc ((k + 1 : Nat) : Int) s') else no) (hfin : ∀ s J, I len s → (∀ j, j < len → p j = true) → b (enc (len : Int) s) J = yes) {n : Nat} (hn : len < n) {s0 : S} (h0 : I 0 s0) :
    loopN b n (enc (0 : Int) s0) = bif (List.range len).all p then yes else no := by
  have key : ∀ m (k : Nat) (s : S) n, k + m = len → m < n → I k s → (List.range k).all p = true → loopN b n (enc (k : Int) s) = bif (List.range len).all p then yes else no := by
    intro m
    induction m with
    | zero =>
      intro k s n hk hn hi hb
      have hb' : ∀ j, j < k → p j = true := fun j hj => List.all_eq_true.1 hb j (List.mem_range.2 hj)
      have hk : k = len := by omega
      subst hk
      cases n with
      | zero => omega
      | succ n => rw [loopN_succ, hfin s _ hi hb', hb]; rfl
    | succ m ih =>
      intro k s n hk hn hi hb
      have hb' : ∀ j, j < k → p j = true := fun j hj => List.all_eq_true.1 hb j (List.mem_range.2 hj)
      cases n with
      | zero => omega
      | succ n =>
        rw [loopN_succ]
        obtain ⟨s', h1, h2⟩ := hstep k s (loopN b n) (by omega) hi hb'
        rw [h2]
        cases hp : p k with
        | true => exact ih (k + 1) s' n (by omega) (by omega) (h1 hp) (by rw [all_range_succ, hb, hp]; rfl)
        | false => rw [all_range_not (by omega : k < len) hp]; rfl
  exact key len 0 s0 n (by omega) hn h0 rfl
/-- A loop over 0 .. len that never leaves early; its state: I. -/
theorem loop_runS {S R : Type} {X : Type} {enc : Int → S → X} {b : X → (X → Option R) → Option R} {len : Nat} {I : Nat → S → Prop} {Q : Option R → Prop}
    (hstep : ∀ (k : Nat) (s : S) (J : X → Option R), k < len → I k s → ∃ s', I (k + 1) s' ∧ b (enc (k : Int) s) J = J (enc ((k + 1 : Nat) : Int) s')) (hfin : ∀ s J, I len s → Q (b (enc (len : Int) s) J)) {n : Nat} (hn : len < n) {s0 : S} (h0 : I 0 s0) :
    Q (loopN b n (enc (0 : Int) s0)) := by
  have key : ∀ m (k : Nat) (s : S) n, k + m = len → m < n → I k s → Q (loopN b n (enc (k : Int) s)) := by
    intro m
    induction m with
    | zero =>
      intro k s n hk hn hi
      have hk : k = len := by omega
      subst hk
      cases n with
      | zero => omega
      | succ n => rw [loopN_succ]; exact hfin s _ hi
    | succ m ih =>
      intro k s n hk hn hi
      cases n with
      | zero => omega
      | succ n =>
        rw [loopN_succ]
        obtain ⟨s', h1, h2⟩ := hstep k s (loopN b n) (by omega) hi
        rw [h2]
        exact ih (k + 1) s' n (by omega) (by omega) h1
  exact key len 0 s0 n (by omega) hn h0
/-! ### Sums over lists -/
def sumOf {α : Type} (f : α → Nat) : List α → Nat
  | [] => 0
  | a :: l => f a + sumOf f l
theorem sumOf_append {α : Type} (f : α → Nat) : ∀ a b : List α, sumOf f (a ++ b) = sumOf f a + sumOf f b
  | [], b => by simp [sumOf]
  | x :: a, b => by simp only [List.cons_append, sumOf, sumOf_append f a b]; omega
theorem sumOf_take_succ {α : Type} {f : α → Nat} {l : List α} {k : Nat} {d : α} (h : k < l.length) : sumOf f (l.take (k + 1)) = sumOf f (l.take k) + f (l.getD k d) := by
  rw [take_succ_getD (d := d) h, sumOf_append]
  simp [sumOf]
theorem sumOf_take_le {α : Type} (f : α → Nat) (l : List α) (k : Nat) : sumOf f (l.take k) ≤ sumOf f l := by
  have := sumOf_append f (l.take k) (l.drop k)
  rw [List.take_append_drop] at this
  omega
theorem sumOf_mem {α : Type} {f : α → Nat} {l : List α} {k : Nat} {d : α} (h : k < l.length) : f (l.getD k d) ≤ sumOf f l := by
  have h1 := sumOf_take_succ (f := f) (d := d) h
  have h2 := sumOf_take_le f l (k + 1)
  omega
theorem sumOf_lin {α : Type} {f g : α → Nat} {c s : Nat} (h : ∀ y, f y ≤ c * g y + s) : ∀ l : List α, sumOf f l ≤ c * sumOf g l + s * l.length
  | [] => by simp [sumOf]
  | a :: l => by
    have h1 := h a
    have h2 := sumOf_lin h l
    simp only [sumOf, List.length_cons, Nat.mul_add, Nat.mul_succ]
    omega
theorem sumOf_const {α : Type} (c : Nat) : ∀ l : List α, sumOf (fun _ => c) l = c * l.length
  | [] => by simp [sumOf]
  | a :: l => by simp only [sumOf, sumOf_const c l, List.length_cons, Nat.mul_succ]; omega
theorem getD_set {α : Type} {l : List α} {k : Nat} {x d : α} (h : k < l.length) : (l.set k x).getD k d = x := by simp [List.getD, h]
theorem getD_set_ne {α : Type} {l : List α} {k j : Nat} {x d : α} (h : j ≠ k) : (l.set k x).getD j d = l.getD j d := by simp [List.getD, List.getElem?_set, Ne.symm h]
theorem getD_mem {α : Type} {l : List α} {k : Nat} {d : α} (h : k < l.length) : l.getD k d ∈ l := by rw [getD_eq h]; exact List.getElem_mem h
theorem take_drop_set {α : Type} {a : List α} {d : α} {m k : Nat} {x : α} (h : k < a.length) (hm : m = a.length) (hx : x = a.getD k d) : (a.take k ++ (List.replicate m d).drop k).set k x = a.take (k + 1) ++ (List.replicate m d).drop (k + 1) := by
  subst hx
  exact set_take h hm
/-! ### The first that is so -/
def idxOf (p : Nat → Bool) (m : Nat) : Int := match (List.range m).find? p with
  | some k => (k : Int)
  | none => -1
theorem find_range_none {p : Nat → Bool} {m : Nat} (h : ∀ j, j < m → p j = false) : (List.range m).find? p = none := by
  rw [List.find?_eq_none]
  intro x hx
  rw [h x (List.mem_range.1 hx)]
  simp
theorem find_range_some {p : Nat → Bool} {m k : Nat} (hk : k < m) (hp : p k = true) (h : ∀ j, j < k → p j = false) : (List.range m).find? p = some k := by
  have e : m = k + (m - k) := by omega
  rw [e, List.range_add, List.find?_append, find_range_none h, Option.none_or]
  obtain ⟨r, hr⟩ : ∃ r, m - k = r + 1 := ⟨m - k - 1, by omega⟩
  rw [hr, List.range_succ_eq_map]
  simp [hp]
theorem idxOf_ge (p : Nat → Bool) (m : Nat) : decide (idxOf p m ≥ 0) = (List.range m).any p := by
  unfold idxOf
  cases h : (List.range m).find? p with
  | none =>
    rw [List.find?_eq_none] at h
    rw [show (List.range m).any p = false from by rw [List.any_eq_false]; exact h]
    rfl
  | some k =>
    have h1 := List.find?_some h
    rw [show (List.range m).any p = true from List.any_eq_true.2 ⟨k, List.mem_of_find?_eq_some h, h1⟩]
    exact decide_eq_true (by show (0 : Int) ≤ (k : Int); omega)
theorem idxOf_lt (p : Nat → Bool) (m : Nat) : decide (idxOf p m < 0) = !(List.range m).any p := by
  rw [← idxOf_ge]
  by_cases h : idxOf p m < 0
  · rw [decide_eq_true h, decide_eq_false (by omega)]; rfl
  · rw [decide_eq_false h, decide_eq_true (by omega)]; rfl
theorem find_range (p : Nat → Bool) : ∀ m, ((List.range m).find? p = none ∧ ∀ j, j < m → p j = false) ∨ ∃ k, (List.range m).find? p = some k ∧ k < m ∧ p k = true ∧ ∀ j, j < k → p j = false
  | 0 => .inl ⟨rfl, fun j hj => absurd hj (Nat.not_lt_zero _)⟩
  | m + 1 => by
    rcases find_range p m with ⟨h1, h2⟩ | ⟨k, h1, h2, h3, h4⟩
    · cases hp : p m with
      | true => exact .inr ⟨m, find_range_some (by omega) hp h2, by omega, hp, h2⟩
      | false =>
        have : ∀ j, j < m + 1 → p j = false := fun j hj => by
          by_cases e : j = m
          · rw [e]; exact hp
          · exact h2 j (by omega)
        exact .inl ⟨find_range_none this, this⟩
    · exact .inr ⟨k, find_range_some (by omega) h3 h4, by omega, h3, h4⟩
theorem idxOf_spec (p : Nat → Bool) (m : Nat) : (idxOf p m = -1 ∧ ∀ j, j < m → p j = false) ∨ ∃ k : Nat, idxOf p m = (k : Int) ∧ k < m ∧ p k = true ∧ ∀ j, j < k → p j = false := by
  unfold idxOf
  rcases find_range p m with ⟨h1, h2⟩ | ⟨k, h1, h2, h3, h4⟩
  · rw [h1]; exact .inl ⟨rfl, h2⟩
  · rw [h1]; exact .inr ⟨k, rfl, h2, h3, h4⟩
/-- A loop that looks at k = 0, 1, .. and leaves at the first that is so. -/
theorem loop_find {R : Type} {b : Int → (Int → Option R) → Option R} {len : Nat} {p : Nat → Bool} {yes : Nat → Option R} {no : Option R} (hlen : len ≤ 9223372036854775807)
    (hstep : ∀ (k : Nat) (J : Int → Option R), k < len → (∀ j, j < k → p j = false) → b (k : Int) J = bif p k then yes k else J ((k + 1 : Nat) : Int)) (hfin : ∀ J, (∀ j, j < len → p j = false) → b (len : Int) J = no) {n : Nat} (hn : len < n) :
    loopN b n (0 : Int) = match (List.range len).find? p with | some k => yes k | none => no := by
  refine loopN_ind (fun x => len - x.toNat) (fun x => ∃ k : Nat, k ≤ len ∧ x = (k : Int) ∧ ∀ j, j < k → p j = false) (fun x r => r = match (List.range len).find? p with | some k => yes k | none => no) ?_ n _ ⟨0, by omega, rfl, fun j hj => absurd hj (Nat.not_lt_zero _)⟩ (by simp; omega)
  rintro _ J ⟨k, hk, rfl, hb⟩ ih
  by_cases h : k < len
  · rw [hstep k J h hb]
    cases hp : p k with
    | false => exact ih _ ⟨k + 1, h, rfl, fun j hj => by
        by_cases e : j = k
        · rw [e]; exact hp
        · exact hb j (by omega)⟩ (by simp; omega)
    | true => rw [find_range_some h hp hb]; rfl
  · have : k = len := by omega
    subst this
    rw [hfin _ hb, find_range_none hb]
theorem loop_idx {b : Int → (Int → Option Int) → Option Int} {len : Nat} {p : Nat → Bool} (hlen : len ≤ 9223372036854775807)
    (hstep : ∀ (k : Nat) (J : Int → Option Int), k < len → (∀ j, j < k → p j = false) → b (k : Int) J = bif p k then some (k : Int) else J ((k + 1 : Nat) : Int)) (hfin : ∀ J, (∀ j, j < len → p j = false) → b (len : Int) J = some (-1)) {n : Nat} (hn : len < n) :
    loopN b n (0 : Int) = some (idxOf p len) := by
  rw [loop_find (yes := fun k => some (k : Int)) (no := some (-1)) hlen hstep hfin hn]
  unfold idxOf
  cases (List.range len).find? p <;> rfl
theorem byteAt_rng (s : ByteArray) (k : Nat) : 0 ≤ byteAt s k ∧ byteAt s k ≤ 255 := by
  unfold byteAt
  have := (s.data.getD k 0).toNat_lt
  omega
theorem range_any {α : Type} {l : List α} {d : α} {f : α → Bool} : (List.range l.length).any (fun k => f (l.getD k d)) = l.any f := by
  induction l with
  | nil => rfl
  | cons a l ih =>
    rw [List.length_cons, List.range_succ_eq_map, List.any_cons, List.any_map, List.any_cons, ← ih]
    rfl
theorem range_all {α : Type} {l : List α} {d : α} {f : α → Bool} : (List.range l.length).all (fun k => f (l.getD k d)) = l.all f := by
  induction l with
  | nil => rfl
  | cons a l ih =>
    rw [List.length_cons, List.range_succ_eq_map, List.all_cons, List.all_map, List.all_cons, ← ih]
    rfl
theorem all_congr_lt {p q : Nat → Bool} {m : Nat} (h : ∀ k, k < m → p k = q k) : (List.range m).all p = (List.range m).all q := by
  rw [Bool.eq_iff_iff, List.all_eq_true, List.all_eq_true]
  constructor
  · intro g x hx; rw [← h x (List.mem_range.1 hx)]; exact g x hx
  · intro g x hx; rw [h x (List.mem_range.1 hx)]; exact g x hx
theorem any_congr_lt {p q : Nat → Bool} {m : Nat} (h : ∀ k, k < m → p k = q k) : (List.range m).any p = (List.range m).any q := by
  rw [Bool.eq_iff_iff, List.any_eq_true, List.any_eq_true]
  constructor
  · rintro ⟨x, hx, g⟩; exact ⟨x, hx, by rw [← h x (List.mem_range.1 hx)]; exact g⟩
  · rintro ⟨x, hx, g⟩; exact ⟨x, hx, by rw [h x (List.mem_range.1 hx)]; exact g⟩
theorem guard_sz {w : Nat} {x : Option Bool} (h : w ≤ 1048576 → x = some true) : (bif decide ((if (w : Int) ≤ 1048576 then 1048576 - (w : Int) else -1) < 0) then some true else x) = some true := by
  by_cases c : (w : Int) ≤ 1048576
  · rw [if_pos c, decide_eq_false (by omega), cond_false]
    exact h (by omega)
  · rw [if_neg c]
    rfl
end Go.Sm
end

section
set_option linter.unusedSimpArgs false
set_option linter.deprecated false
set_option linter.unusedSectionVars false
set_option linter.unusedVariables false
set_option linter.unusedSimpArgs false
namespace Go.Sm
attribute [local irreducible] bd chk ix loopN
theorem in_spec (n : Nat) (x a b : Int) : spec_l1In n x a b = some (decide (a ≤ x ∧ x ≤ b)) := by
  unfold spec_l1In
  by_cases h0 : a ≤ x <;> by_cases h1 : x ≤ b <;> simp [h0, h1]
theorem in_impl (n : Nat) (x a b : Int) : impl_in n x a b = some (decide (a ≤ x ∧ x ≤ b)) := by
  unfold impl_in
  by_cases h0 : a ≤ x <;> by_cases h1 : x ≤ b <;> simp [h0, h1]
def rightB (x : SLot) : Bool := decide (1 ≤ x.Many ∧ x.Many ≤ 1000000) && (decide (0 ≤ x.Value ∧ x.Value ≤ 1000000) && decide (0 ≤ x.Rate ∧ x.Rate ≤ 5000))
def dutyI (x : SLot) : Int := w64 (Int.tdiv (w64 ((w64 (x.Many * x.Value)) * x.Rate)) 1000)
theorem duty_spec (n : Nat) (x : SLot) : spec_Duty6 n x.Many x.Value x.Rate = some (bif rightB x then (dutyI x, true) else (0, false)) := by
  unfold spec_Duty6 rightB dutyI
  simp only [in_spec, Option.bind_some, bd_eq]
  cases decide (1 ≤ x.Many ∧ x.Many ≤ 1000000) <;> cases decide (0 ≤ x.Value ∧ x.Value ≤ 1000000) <;> cases decide (0 ≤ x.Rate ∧ x.Rate ≤ 5000) <;> rfl
theorem right_impl (n : Nat) (x : SLot) : impl_lotRight n x.Many x.Value x.Rate = some (rightB x) := by
  unfold impl_lotRight rightB
  simp only [in_impl, Option.bind_some]
  cases decide (1 ≤ x.Many ∧ x.Many ≤ 1000000) <;> cases decide (0 ≤ x.Value ∧ x.Value ≤ 1000000) <;> cases decide (0 ≤ x.Rate ∧ x.Rate ≤ 5000) <;> rfl
theorem duty_impl (n : Nat) (x : SLot) (h : rightB x = true) : impl_Lot_duty n x = some (dutyI x) := by
  unfold impl_Lot_duty impl_Duty6
  rw [right_impl, h]
  simp only [Option.bind_some, bd_eq, Bool.not_true, cond_false]
  rfl
def addB (b : List Int) (x : SLot) : List Int := b.set x.Owner.toNat (w64 (b.getD x.Owner.toNat 0 + x.Bond))
def bnd (h : SHouse) (k : Nat) : List Int := (h.Lots.take k).foldl addB (List.replicate h.Traders.length 0)
theorem bnd_succ (h : SHouse) {k : Nat} (hk : k < h.Lots.length) : bnd h (k + 1) = addB (bnd h k) (h.Lots.getD k dSLot) := by
  unfold bnd
  rw [take_succ_getD (d := dSLot) hk, List.foldl_append]
  rfl
theorem bnd_len (h : SHouse) (k : Nat) : (bnd h k).length = h.Traders.length := by
  unfold bnd
  have : ∀ (l : List SLot) (b : List Int), (l.foldl addB b).length = b.length := by
    intro l
    induction l with
    | nil => intro b; rfl
    | cons a l ih => intro b; rw [List.foldl_cons, ih]; simp [addB]
  rw [this]
  simp
def condB (x : SLot) : Bool := bif decide (x.State = 3) then decide (x.Bond = dutyI x) else decide (x.Bond = 0)
def ownB (h : SHouse) (x : SLot) : Bool := decide (0 ≤ x.Owner ∧ x.Owner ≤ w64 ((h.Traders.length : Int) - 1))
def lotId (h : SHouse) (k : Nat) : Bool := decide (1 ≤ (h.Lots.getD k dSLot).Id ∧ (h.Lots.getD k dSLot).Id ≤ 1000000) && (decide (k = 0) || !decide ((h.Lots.getD (k - 1) dSLot).Id ≥ (h.Lots.getD k dSLot).Id))
def stateB (x : SLot) : Bool := decide (1 ≤ x.State ∧ x.State ≤ 5)
def lotB (h : SHouse) (k : Nat) : Bool := rightB (h.Lots.getD k dSLot) && (lotId h k && (ownB h (h.Lots.getD k dSLot) && (stateB (h.Lots.getD k dSLot) && condB (h.Lots.getD k dSLot))))
def trdB (h : SHouse) (k : Nat) : Bool := decide (0 ≤ (h.Traders.getD k dSTrader).Money ∧ (h.Traders.getD k dSTrader).Money ≤ 1000000000000000) && (decide (0 ≤ (h.Traders.getD k dSTrader).Bond ∧ (h.Traders.getD k dSTrader).Bond ≤ 1000000000000000) && (decide (0 ≤ (h.Traders.getD k dSTrader).Bound ∧ (h.Traders.getD k dSTrader).Bound ≤ (h.Traders.getD k dSTrader).Bond) && decide ((h.Traders.getD k dSTrader).Bound = (bnd h h.Lots.length).getD k 0)))
def houseB (h : SHouse) : Bool := decide (h.Lots.length ≤ 40) && (decide (h.Traders.length ≤ 10) && (decide (0 ≤ h.Taken ∧ h.Taken ≤ 1000000000000000) && ((List.range h.Lots.length).all (lotB h) && (List.range h.Traders.length).all (trdB h))))
section
variable {R : Type}
theorem own_lt {h : SHouse} {x : SLot} (ht : h.Traders.length ≤ 10) (ho : ownB h x = true) : 0 ≤ x.Owner ∧ x.Owner < (h.Traders.length : Int) := by
  have := of_decide_eq_true ho
  rw [w64_id (by omega) (by omega)] at this
  omega
theorem k2_spec {n : Nat} (kx0 : List Int → Option R) (kxr : Bool → Option R) (J : Int → List Int → Option R) (i : Int) (t : Bool) (h : SHouse) (b : List Int) (x : SLot) (hb : b.length = h.Traders.length) (ht : h.Traders.length ≤ 10) (ho : ownB h x = true) :
    spec_HouseOk_k2 n kx0 kxr J i (dutyI x) (!t) h b x = bif t && condB x then J (w64 (i + 1)) (addB b x) else kxr false := by
  obtain ⟨h0, h1⟩ := own_lt ht ho
  unfold spec_HouseOk_k2 condB spec_HouseOk_k0 spec_HouseOk_k1
  cases t with
  | false => rfl
  | true =>
    simp only [Bool.not_true, cond_false, Bool.true_and, ix_of h0 (show x.Owner < (b.length : Int) by omega), chk_dec (show x.Owner.toNat < b.length by omega), bd_eq]
    cases decide (x.State = 3) with
    | false =>
      simp only [Bool.not_false, cond_true, cond_false]
      by_cases e : x.Bond = 0
      · rw [decide_eq_true e]
        unfold addB
        rw [e]
        rfl
      · rw [decide_eq_false e]
        rfl
    | true =>
      simp only [Bool.not_true, cond_true, cond_false]
      by_cases e : x.Bond = dutyI x
      · rw [decide_eq_true e]
        unfold addB
        rw [e]
        rfl
      · rw [decide_eq_false e]
        rfl
theorem k1_impl {n : Nat} (kx0 : List Int → Option R) (kxr : Bool → Option R) (J : Int → List Int → Option R) (t3 : List SLot) (t4 : Int) (i : Int) (h : SHouse) (b : List Int) (x : SLot) (hb : b.length = h.Traders.length) (ht : h.Traders.length ≤ 10) (ho : ownB h x = true) (hr : rightB x = true) :
    impl_HouseOk_k1 n kx0 kxr J t3 t4 i h b x = bif condB x then J (w64 (i + 1)) (addB b x) else kxr false := by
  obtain ⟨h0, h1⟩ := own_lt ht ho
  unfold impl_HouseOk_k1 condB impl_HouseOk_k0
  simp only [duty_impl n x hr, Option.bind_some, ix_of h0 (show x.Owner < (b.length : Int) by omega), chk_dec (show x.Owner.toNat < b.length by omega), bd_eq]
  cases decide (x.State = 3) <;> cases decide (x.Bond = 0) <;> cases decide (x.Bond = dutyI x) <;> rfl
end
theorem id_impl3 (n : Nat) (x : Int) : impl_idRight n x = some (decide (1 ≤ x ∧ x ≤ 1000000)) := by
  unfold impl_idRight
  rw [in_impl]; rfl
theorem house_spec {n : Nat} (h : SHouse) (hn : 1000000000 < n) : spec_HouseOk n h = some (houseB h) := by
  unfold spec_HouseOk houseB
  by_cases h40 : h.Lots.length ≤ 40
  · by_cases h10 : h.Traders.length ≤ 10
    · rw [decide_eq_false (show ¬ (h.Lots.length : Int) > 40 by omega), decide_eq_false (show ¬ (h.Traders.length : Int) > 10 by omega), decide_eq_true h40, decide_eq_true h10, in_spec, Option.bind_some]
      simp only [cond_false, Bool.true_and]
      cases decide (0 ≤ h.Taken ∧ h.Taken ≤ 1000000000000000) with
      | false => rfl
      | true =>
        simp only [Bool.not_true, cond_false, Bool.true_and]
        unfold spec_HouseOk_k5
        rw [chk_dec (by omega), chk_dec (by omega), chk_dec (by omega), Int.toNat_natCast]
        refine (loop_allS (S := List Int) (X := Int × List Int) (enc := fun k s => (k, s)) (len := h.Lots.length) (p := lotB h)
          (I := fun k b => b = bnd h k) (no := some false) (yes := some ((List.range h.Traders.length).all (trdB h))) (fun k b J hk hi _ => ?_) (fun b J hi _ => ?_) (n := n) (by omega) (s0 := _) (by simp [bnd])).trans ?_
        · refine ⟨addB b (h.Lots.getD k dSLot), fun _ => by rw [bnd_succ h hk, hi], ?_⟩
          have hb : b.length = h.Traders.length := by rw [hi, bnd_len]
          show spec_HouseOk_L5 n _ _ _ (k : Int) h b = _
          unfold spec_HouseOk_L5 spec_HouseOk_k3 lotB lotId
          have e5 : ∀ t : Bool, ownB h (h.Lots.getD k dSLot) = true → ∀ kx0 kxr (J2 : Int → List Int → Option Bool), spec_HouseOk_k2 n kx0 kxr J2 (k : Int) (dutyI (h.Lots.getD k dSLot)) (!t) h b (h.Lots.getD k dSLot) = bif t && condB (h.Lots.getD k dSLot) then J2 (w64 ((k : Int) + 1)) (addB b (h.Lots.getD k dSLot)) else kxr false := fun t ho kx0 kxr J2 => k2_spec kx0 kxr J2 (k : Int) t h b _ hb h10 ho
          have eo : decide (0 ≤ (h.Lots.getD k dSLot).Owner ∧ (h.Lots.getD k dSLot).Owner ≤ w64 ((h.Traders.length : Int) - 1)) = ownB h (h.Lots.getD k dSLot) := rfl
          have es : decide (1 ≤ (h.Lots.getD k dSLot).State ∧ (h.Lots.getD k dSLot).State ≤ 5) = stateB (h.Lots.getD k dSLot) := rfl
          simp only [Int.ofNat_lt, hk, decide_true, cond_true, ix_nat hk, bd_eq, Int.toNat_natCast, duty_spec, in_spec, Option.bind_some, eo, es]
          cases hr : rightB (h.Lots.getD k dSLot) with
          | false => rfl
          | true =>
            simp only [cond_true, Bool.not_true, cond_false, Bool.true_and]
            cases ho : ownB h (h.Lots.getD k dSLot) with
            | false =>
              cases k with
              | zero =>
                simp only [show ¬ ((0 : Nat) : Int) > 0 by omega, decide_false, cond_false, Bool.not_false, cond_true, Bool.false_and, Bool.and_false]
                cases decide (1 ≤ (h.Lots.getD 0 dSLot).Id ∧ (h.Lots.getD 0 dSLot).Id ≤ 1000000) <;> rfl
              | succ k =>
                have e3 : w64 (((k + 1 : Nat) : Int) - 1) = (k : Int) := by rw [w64_id (by omega) (by omega)]; omega
                simp only [show ((k + 1 : Nat) : Int) > 0 by omega, decide_true, cond_true, e3, ix_nat (show k < h.Lots.length by omega), Int.toNat_natCast, Bool.not_false, Bool.false_and, Bool.and_false]
                cases decide (1 ≤ (h.Lots.getD (k + 1) dSLot).Id ∧ (h.Lots.getD (k + 1) dSLot).Id ≤ 1000000) <;> cases decide ((h.Lots.getD k dSLot).Id ≥ (h.Lots.getD (k + 1) dSLot).Id) <;> rfl
            | true =>
              cases k with
              | zero =>
                simp only [show ¬ ((0 : Nat) : Int) > 0 by omega, decide_false, cond_false, e5 _ ho, Bool.not_true, Bool.true_and, decide_true, Bool.true_or, Bool.and_true, w64_succ (show 0 < 9223372036854775807 by omega), bif_not, bif_and', Bool.and_assoc]
              | succ k =>
                have e3 : w64 (((k + 1 : Nat) : Int) - 1) = (k : Int) := by rw [w64_id (by omega) (by omega)]; omega
                simp only [show ((k + 1 : Nat) : Int) > 0 by omega, decide_true, cond_true, e3, ix_nat (show k < h.Lots.length by omega), Int.toNat_natCast, e5 _ ho, Bool.not_true, cond_false, Bool.true_and, decide_false, Nat.succ_ne_zero, Nat.add_sub_cancel, Bool.false_or, w64_succ (show k + 1 < 9223372036854775807 by omega), bif_not, bif_and', bif_or', Bool.and_assoc, Bool.not_not, Bool.not_false, Bool.true_and]
        · have hb : b.length = h.Traders.length := by rw [hi, bnd_len]
          show spec_HouseOk_L5 n _ _ _ (h.Lots.length : Int) h b = _
          unfold spec_HouseOk_L5
          simp only [Int.lt_irrefl, decide_false, cond_false]
          rw [loop_all (p := trdB h) (len := h.Traders.length) (no := some false) (yes := some true) (by omega) (fun k J hk _ => ?_) (fun J _ => ?_) (by omega)]
          · rw [bif_tf]
          · unfold spec_HouseOk_L17 spec_HouseOk_k4 trdB
            rw [← hi]
            simp only [Int.ofNat_lt, hk, decide_true, cond_true, ix_nat hk, bd_eq, Int.toNat_natCast, in_spec, Option.bind_some, ix_nat (show k < b.length by omega), chk_dec (show k < b.length by omega), w64_succ (show k < 9223372036854775807 by omega), bif_not, bif_and', Bool.and_assoc]
          · unfold spec_HouseOk_L17
            simp only [Int.lt_irrefl, decide_false, cond_false]
        · rw [bif_sf]
    · rw [decide_eq_false (show ¬ (h.Lots.length : Int) > 40 by omega), decide_eq_true (show (h.Traders.length : Int) > 10 by omega), decide_eq_false h10, Bool.false_and, Bool.and_false]
      rfl
  · rw [decide_eq_true (show (h.Lots.length : Int) > 40 by omega), decide_eq_false h40]
    rfl
theorem house_impl {n : Nat} (h : SHouse) (hn : 1000000000 < n) : impl_HouseOk n h = some (houseB h) := by
  unfold impl_HouseOk houseB
  by_cases h40 : h.Lots.length ≤ 40
  · by_cases h10 : h.Traders.length ≤ 10
    · rw [decide_eq_false (show ¬ (h.Lots.length : Int) > 40 by omega), decide_eq_false (show ¬ (h.Traders.length : Int) > 10 by omega), decide_eq_true h40, decide_eq_true h10, in_impl, Option.bind_some]
      simp only [cond_false, Bool.true_and]
      cases decide (0 ≤ h.Taken ∧ h.Taken ≤ 1000000000000000) with
      | false => rfl
      | true =>
        simp only [Bool.not_true, cond_false, Bool.true_and]
        unfold impl_HouseOk_k4
        rw [chk_dec (by omega), chk_dec (by omega), chk_dec (by omega), Int.toNat_natCast]
        refine (loop_allS (S := List Int) (X := Int × List Int) (enc := fun k s => (k, s)) (len := h.Lots.length) (p := lotB h)
          (I := fun k b => b = bnd h k) (no := some false) (yes := some ((List.range h.Traders.length).all (trdB h))) (fun k b J hk hi _ => ?_) (fun b J hi _ => ?_) (n := n) (by omega) (s0 := _) (by simp [bnd])).trans ?_
        · refine ⟨addB b (h.Lots.getD k dSLot), fun _ => by rw [bnd_succ h hk, hi], ?_⟩
          have hb : b.length = h.Traders.length := by rw [hi, bnd_len]
          show impl_HouseOk_L5 n _ _ _ h.Lots (h.Lots.length : Int) (k : Int) h b = _
          unfold impl_HouseOk_L5 impl_HouseOk_k2 lotB lotId
          have e5 : ownB h (h.Lots.getD k dSLot) = true → rightB (h.Lots.getD k dSLot) = true → ∀ kx0 kxr (J2 : Int → List Int → Option Bool), impl_HouseOk_k1 n kx0 kxr J2 h.Lots (h.Lots.length : Int) (k : Int) h b (h.Lots.getD k dSLot) = bif condB (h.Lots.getD k dSLot) then J2 (w64 ((k : Int) + 1)) (addB b (h.Lots.getD k dSLot)) else kxr false := fun ho hr kx0 kxr J2 => k1_impl kx0 kxr J2 h.Lots _ (k : Int) h b _ hb h10 ho hr
          have eo : decide (0 ≤ (h.Lots.getD k dSLot).Owner ∧ (h.Lots.getD k dSLot).Owner ≤ w64 ((h.Traders.length : Int) - 1)) = ownB h (h.Lots.getD k dSLot) := rfl
          have es : decide (1 ≤ (h.Lots.getD k dSLot).State ∧ (h.Lots.getD k dSLot).State ≤ 5) = stateB (h.Lots.getD k dSLot) := rfl
          simp only [Int.ofNat_lt, hk, decide_true, cond_true, ix_nat hk, bd_eq, Int.toNat_natCast, right_impl, id_impl3, in_impl, Option.bind_some, eo, es]
          cases ho : ownB h (h.Lots.getD k dSLot) with
          | false =>
            cases k with
            | zero =>
              simp only [show ¬ ((0 : Nat) : Int) > 0 by omega, decide_false, cond_false, Bool.not_false, cond_true, Bool.false_and, Bool.and_false]
              cases decide (1 ≤ (h.Lots.getD 0 dSLot).Id ∧ (h.Lots.getD 0 dSLot).Id ≤ 1000000) <;> rfl
            | succ k =>
              have e3 : w64 (((k + 1 : Nat) : Int) - 1) = (k : Int) := by rw [w64_id (by omega) (by omega)]; omega
              simp only [show ((k + 1 : Nat) : Int) > 0 by omega, decide_true, cond_true, e3, ix_nat (show k < h.Lots.length by omega), Int.toNat_natCast, Bool.not_false, Bool.false_and, Bool.and_false]
              cases decide (1 ≤ (h.Lots.getD (k + 1) dSLot).Id ∧ (h.Lots.getD (k + 1) dSLot).Id ≤ 1000000) <;> cases decide ((h.Lots.getD k dSLot).Id ≥ (h.Lots.getD (k + 1) dSLot).Id) <;> rfl
          | true =>
            cases hr : rightB (h.Lots.getD k dSLot) with
            | false =>
              cases k with
              | zero =>
                simp only [show ¬ ((0 : Nat) : Int) > 0 by omega, decide_false, cond_false, Bool.not_false, Bool.not_true, cond_true, Bool.false_and, Bool.and_false]
                cases decide (1 ≤ (h.Lots.getD 0 dSLot).Id ∧ (h.Lots.getD 0 dSLot).Id ≤ 1000000) <;> rfl
              | succ k =>
                have e3 : w64 (((k + 1 : Nat) : Int) - 1) = (k : Int) := by rw [w64_id (by omega) (by omega)]; omega
                simp only [show ((k + 1 : Nat) : Int) > 0 by omega, decide_true, cond_true, e3, ix_nat (show k < h.Lots.length by omega), Int.toNat_natCast, Bool.not_false, Bool.not_true, cond_false, Bool.false_and, Bool.and_false]
                cases decide (1 ≤ (h.Lots.getD (k + 1) dSLot).Id ∧ (h.Lots.getD (k + 1) dSLot).Id ≤ 1000000) <;> cases decide ((h.Lots.getD k dSLot).Id ≥ (h.Lots.getD (k + 1) dSLot).Id) <;> rfl
            | true =>
              cases k with
              | zero =>
                simp only [show ¬ ((0 : Nat) : Int) > 0 by omega, decide_false, cond_false, e5 ho hr, Bool.not_true, Bool.true_and, decide_true, Bool.true_or, Bool.and_true, w64_succ (show 0 < 9223372036854775807 by omega), bif_not, bif_and', Bool.and_assoc]
              | succ k =>
                have e3 : w64 (((k + 1 : Nat) : Int) - 1) = (k : Int) := by rw [w64_id (by omega) (by omega)]; omega
                simp only [show ((k + 1 : Nat) : Int) > 0 by omega, decide_true, cond_true, e3, ix_nat (show k < h.Lots.length by omega), Int.toNat_natCast, e5 ho hr, Bool.not_true, cond_false, Bool.true_and, decide_false, Nat.succ_ne_zero, Nat.add_sub_cancel, Bool.false_or, w64_succ (show k + 1 < 9223372036854775807 by omega), bif_not, bif_and', bif_or', Bool.and_assoc, Bool.not_not, Bool.not_false, Bool.true_and]
        · have hb : b.length = h.Traders.length := by rw [hi, bnd_len]
          show impl_HouseOk_L5 n _ _ _ h.Lots (h.Lots.length : Int) (h.Lots.length : Int) h b = _
          unfold impl_HouseOk_L5
          simp only [Int.lt_irrefl, decide_false, cond_false]
          rw [loop_all (p := trdB h) (len := h.Traders.length) (no := some false) (yes := some true) (by omega) (fun k J hk _ => ?_) (fun J _ => ?_) (by omega)]
          · rw [bif_tf]
          · unfold impl_HouseOk_L17 impl_HouseOk_k3 trdB
            rw [← hi]
            simp only [Int.ofNat_lt, hk, decide_true, cond_true, ix_nat hk, bd_eq, Int.toNat_natCast, in_impl, Option.bind_some, ix_nat (show k < b.length by omega), chk_dec (show k < b.length by omega), w64_succ (show k < 9223372036854775807 by omega), bif_not, bif_and', Bool.and_assoc]
          · unfold impl_HouseOk_L17
            simp only [Int.lt_irrefl, decide_false, cond_false]
        · rw [bif_sf]
    · rw [decide_eq_false (show ¬ (h.Lots.length : Int) > 40 by omega), decide_eq_true (show (h.Traders.length : Int) > 10 by omega), decide_eq_false h10, Bool.false_and, Bool.and_false]
      rfl
  · rw [decide_eq_true (show (h.Lots.length : Int) > 40 by omega), decide_eq_false h40]
    rfl
end Go.Sm
end

section
set_option linter.unusedSimpArgs false
set_option linter.deprecated false
set_option linter.unusedSectionVars false
set_option linter.unusedVariables false
set_option linter.unusedSimpArgs false
namespace Go.Sm
attribute [local irreducible] bd chk ix loopN
/-! ### Lots by number -/
def findB (l : List SLot) (id : Int) : Int := idxOf (fun k => decide ((l.getD k dSLot).Id = id)) l.length
theorem find_spec {n : Nat} (h : SHouse) (id : Int) (hl : h.Lots.length ≤ 1048576) (hn : 1000000000 < n) : spec_l16Find n h id = some (findB h.Lots id) := by
  unfold spec_l16Find
  refine loop_idx (len := h.Lots.length) (p := fun k => decide ((h.Lots.getD k dSLot).Id = id)) (by omega) (fun k J hk _ => ?_) (fun J _ => ?_) (by omega)
  · unfold spec_l16Find_L2
    simp only [Int.ofNat_lt, hk, decide_true, cond_true, ix_nat hk, bd_eq, Int.toNat_natCast, w64_succ (show k < 9223372036854775807 by omega)]
  · unfold spec_l16Find_L2
    simp only [Int.lt_irrefl, decide_false, cond_false]
theorem lot_impl {n : Nat} (h : SHouse) (id : Int) (hl : h.Lots.length ≤ 1048576) (hn : 1000000000 < n) : impl_House_lot n h id = some (findB h.Lots id) := by
  unfold impl_House_lot slices_IndexFunc_impl_Lot_impl_Lot__impl_House_lot_1
  rw [loop_idx (len := h.Lots.length) (p := fun k => decide ((h.Lots.getD k dSLot).Id = id)) (by omega) (fun k J hk _ => ?_) (fun J _ => ?_) (by omega)]
  · rfl
  · unfold slices_IndexFunc_impl_Lot_impl_Lot__impl_House_lot_1_L2 impl_House_lot_1
    simp only [Int.ofNat_lt, hk, decide_true, cond_true, ix_nat hk, bd_eq, Int.toNat_natCast, Option.bind_some, w64_succ (show k < 9223372036854775807 by omega)]
  · unfold slices_IndexFunc_impl_Lot_impl_Lot__impl_House_lot_1_L2
    simp only [Int.lt_irrefl, decide_false, cond_false]
def hasB (l : List SLot) (id : Int) : Bool := decide (findB l id ≥ 0) || decide ((l.length : Int) = 40)
theorem has_impl {n : Nat} (h : SHouse) (id : Int) (hl : h.Lots.length ≤ 1048576) (hn : 1000000000 < n) : impl_DoDeed_1 n id h = some (hasB h.Lots id) := by
  unfold impl_DoDeed_1 hasB
  rw [lot_impl h id hl hn, Option.bind_some]
  cases decide (findB h.Lots id ≥ 0) <;> rfl
/-! ### A lot put in its place -/
def cutN (l : List SLot) (id : Int) : Nat := (l.takeWhile fun y => decide (y.Id < id)).length
def putLot (l : List SLot) (x : SLot) : List SLot := l.take (cutN l x.Id) ++ x :: l.drop (cutN l x.Id)
theorem cutN_le (l : List SLot) (id : Int) : cutN l id ≤ l.length := by
  unfold cutN
  induction l with
  | nil => simp
  | cons a l ih =>
    rw [List.takeWhile_cons]
    split
    · simp; omega
    · simp
theorem cutN_lt (l : List SLot) (id : Int) : ∀ k, k < cutN l id → (l.getD k dSLot).Id < id := by
  unfold cutN
  induction l with
  | nil => intro k hk; simp at hk
  | cons a l ih =>
    intro k hk
    rw [List.takeWhile_cons] at hk
    split at hk
    · rename_i h
      cases k with
      | zero => simpa using h
      | succ k =>
        have := ih k (by simpa using hk)
        simpa using this
    · simp at hk
theorem cutN_ge (l : List SLot) (id : Int) (h : cutN l id < l.length) : ¬ (l.getD (cutN l id) dSLot).Id < id := by
  unfold cutN at *
  induction l with
  | nil => simp at h
  | cons a l ih =>
    rw [List.takeWhile_cons] at h ⊢
    split
    · rename_i hc
      rw [if_pos hc] at h
      have := ih (by simpa using h)
      simpa using this
    · rename_i hc
      simpa using hc
theorem with_spec {n : Nat} (h : SHouse) (x : SLot) (hl : h.Lots.length ≤ 1000000) (hn : 1000000000 < n) : spec_l16With n h x = some ⟨putLot h.Lots x, h.Traders, h.Taken⟩ := by
  unfold spec_l16With
  refine loopN_ind (fun y => h.Lots.length - y.toNat) (fun y => ∃ k : Nat, k ≤ cutN h.Lots x.Id ∧ y = (k : Int)) (fun y r => r = some (⟨putLot h.Lots x, h.Traders, h.Taken⟩ : SHouse)) ?_ n _ ⟨0, by omega, rfl⟩ (by simp; omega)
  rintro _ J ⟨k, hk, rfl⟩ ih
  have hle := cutN_le h.Lots x.Id
  have hend : k = cutN h.Lots x.Id → (chk (decide ((0 : Int) ≤ (k : Int))) (chk (decide ((k : Int) ≤ (h.Lots.length : Int))) (chk (decide (((k : Int).toNat + (h.Lots.length - (k : Int).toNat)) ≤ h.Lots.length)) ((bd ([x] ++ ((h.Lots.drop (k : Int).toNat).take (h.Lots.length - (k : Int).toNat))) fun (l15 : List SLot) => chk (decide (l15.length * 56 ≤ 140737488355328)) (chk (decide ((0 : Int) ≤ (k : Int))) (chk (decide ((k : Int) ≤ (h.Lots.length : Int))) (chk (decide ((0 + ((k : Int).toNat - 0)) ≤ h.Lots.length)) ((bd ((h.Lots.drop 0).take ((k : Int).toNat - 0)) fun (l16 : List SLot) => chk (decide (l16.length * 56 ≤ 140737488355328)) (chk (decide ((l16 ++ l15).length * 56 ≤ 140737488355328)) (some ((⟨(l16 ++ l15), h.Traders, h.Taken⟩ : SHouse)))))))))))))) = some ⟨putLot h.Lots x, h.Traders, h.Taken⟩ := fun hkk => by
    simp only [bd_eq, Int.toNat_natCast, Nat.sub_zero, Nat.zero_add, List.drop_zero]
    have e : (h.Lots.drop k).take (h.Lots.length - k) = h.Lots.drop k := List.take_of_length_le (by simp)
    rw [e, chk_dec (by omega), chk_dec (by omega), chk_dec (by omega), chk_dec (by simp; omega), chk_dec (by omega), chk_dec (by omega), chk_dec (by omega), chk_dec (by simp; omega), chk_dec (by simp; omega)]
    unfold putLot
    rw [← hkk]
    rfl
  unfold spec_l16With_L2
  by_cases c : k < h.Lots.length
  · simp only [Int.ofNat_lt, c, decide_true, cond_true, ix_nat c, chk_true, Int.toNat_natCast] at hend ⊢
    by_cases d : (h.Lots.getD k dSLot).Id < x.Id
    · rw [bd_eq, decide_eq_true d, cond_true, w64_succ (by omega)]
      refine ih _ ⟨k + 1, ?_, rfl⟩ (by simp; omega)
      have : k ≠ cutN h.Lots x.Id := fun e => cutN_ge h.Lots x.Id (e ▸ c) (e ▸ d)
      omega
    · rw [bd_eq, decide_eq_false d, cond_false]
      have hkk : k = cutN h.Lots x.Id := by
        have : ¬ k < cutN h.Lots x.Id := fun e => d (cutN_lt _ _ _ e)
        omega
      simp only [bd_eq]
      rw [chk_dec (by omega), chk_dec (by omega), chk_dec (by simp; omega), chk_dec (by omega), chk_dec (by omega), chk_dec (by simp; omega), chk_dec (by simp; omega)]
      unfold putLot
      rw [← hkk]
      rfl
  · simp only [Int.ofNat_lt, c, decide_false, cond_false, Int.toNat_natCast] at hend ⊢
    have hkk : k = cutN h.Lots x.Id := by omega
    simp only [bd_eq]
    rw [chk_dec (by omega), chk_dec (by omega), chk_dec (by simp; omega), chk_dec (by omega), chk_dec (by omega), chk_dec (by simp; omega), chk_dec (by simp; omega)]
    unfold putLot
    rw [← hkk]
    rfl
/-! ### A lot put in by a sort -/
def incB (l : List SLot) : Prop := ∀ i j, i < j → j < l.length → (l.getD i dSLot).Id < (l.getD j dSLot).Id
def rngB (l : List SLot) : Prop := ∀ y ∈ l, 1 ≤ y.Id ∧ y.Id ≤ 1000000
theorem inc_pairwise {l : List SLot} (h : incB l) : l.Pairwise fun a b => a.Id < b.Id := by
  rw [List.pairwise_iff_getElem]
  intro i j hi hj hij
  have := h i j hij hj
  rwa [getD_eq hi, getD_eq hj] at this
theorem find_neg {l : List SLot} {id : Int} (h : ¬ findB l id ≥ 0) : ∀ y ∈ l, y.Id ≠ id := by
  intro y hy he
  obtain ⟨k, hk, rfl⟩ := List.mem_iff_getElem.1 hy
  have := idxOf_ge (fun k => decide ((l.getD k dSLot).Id = id)) l.length
  rw [show decide (idxOf (fun k => decide ((l.getD k dSLot).Id = id)) l.length ≥ 0) = false from decide_eq_false h] at this
  rw [any_range_of hk (by rw [getD_eq hk]; exact decide_eq_true he)] at this
  cases this
theorem with_pairwise {l : List SLot} {x : SLot} (h : incB l) (hx : ∀ y ∈ l, y.Id ≠ x.Id) : (putLot l x).Pairwise fun a b => a.Id < b.Id := by
  unfold putLot
  have hp := inc_pairwise h
  rw [List.pairwise_append]
  refine ⟨hp.sublist (List.take_sublist _ _), ?_, ?_⟩
  · rw [List.pairwise_cons]
    refine ⟨fun y hy => ?_, hp.sublist (List.drop_sublist _ _)⟩
    obtain ⟨k, hk, rfl⟩ := List.mem_iff_getElem.1 hy
    have hk2 : cutN l x.Id + k < l.length := by simp at hk; omega
    have h0 : ¬ (l.getD (cutN l x.Id) dSLot).Id < x.Id := cutN_ge l x.Id (by omega)
    have h1 : (l.getD (cutN l x.Id) dSLot).Id ≤ (l.getD (cutN l x.Id + k) dSLot).Id := by
      cases k with
      | zero => exact Int.le_refl _
      | succ k => have := h (cutN l x.Id) (cutN l x.Id + (k + 1)) (by omega) hk2; omega
    rw [List.getElem_drop]
    have h2 := hx _ (List.getElem_mem hk2)
    rw [getD_eq hk2] at h1
    omega
  · intro a ha b hb
    obtain ⟨k, hk, rfl⟩ := List.mem_iff_getElem.1 ha
    have hk2 : k < cutN l x.Id ∧ k < l.length := by simp at hk; omega
    have h1 := cutN_lt l x.Id k hk2.1
    rw [List.getElem_take]
    rw [getD_eq hk2.2] at h1
    rcases List.mem_cons.1 hb with rfl | hb
    · exact h1
    · obtain ⟨j, hj, rfl⟩ := List.mem_iff_getElem.1 hb
      have hj2 : cutN l x.Id + j < l.length := by simp at hj; omega
      rw [List.getElem_drop]
      have := h k (cutN l x.Id + j) (by omega) hj2
      rwa [getD_eq hk2.2, getD_eq hj2] at this
theorem with_perm (l : List SLot) (x : SLot) : (putLot l x).Perm (l ++ [x]) := by
  unfold putLot
  refine (List.perm_middle).trans ?_
  rw [List.take_append_drop]
  exact (List.perm_append_singleton x l).symm
theorem put_sorted {n : Nat} {l : List SLot} {x : SLot} (hl : l.length ≤ 1000000) (hi : incB l) (hr : rngB l) (hxr : 1 ≤ x.Id ∧ x.Id ≤ 1000000) (hx : ∀ y ∈ l, y.Id ≠ x.Id) :
    slices_SortFunc_impl_Lot_impl_Lot__impl_House_put_1 n (l ++ [x]) = some (putLot l x) := by
  unfold slices_SortFunc_impl_Lot_impl_Lot__impl_House_put_1
  have hm : ∀ y ∈ l ++ [x], 1 ≤ y.Id ∧ y.Id ≤ 1000000 := fun y hy => by
    rcases List.mem_append.1 hy with h | h
    · exact hr y h
    · simp at h; subst h; exact hxr
  obtain ⟨l', h1, h2, h3⟩ := sortL_ok (d := dSLot) (cmp := fun a b => impl_House_put_1 n a b) (cf := fun a b => a.Id - b.Id) (l := l ++ [x])
    (fun a ha b hb => by
      have := hm a ha; have := hm b hb
      unfold impl_House_put_1
      rw [w64_id (by omega) (by omega)])
    (fun a _ => by omega) (fun a _ b _ c _ _ _ => by omega) (fun a _ b _ c _ _ _ => by omega) (by simp; omega)
  rw [h1]
  congr 1
  have hw := with_pairwise hi hx
  refine List.Perm.eq_of_pairwise (le := fun a b => a.Id ≤ b.Id) ?_ (h3.imp fun h => by omega) (hw.imp fun h => by omega) (h2.trans (with_perm l x).symm)
  intro a b ha hb h4 h5
  have hab : a.Id = b.Id := by omega
  have ha' : a ∈ putLot l x := (with_perm l x).symm.subset (h2.subset ha)
  obtain ⟨i, hi', rfl⟩ := List.mem_iff_getElem.1 ha'
  obtain ⟨j, hj', rfl⟩ := List.mem_iff_getElem.1 hb
  rcases Nat.lt_trichotomy i j with h | h | h
  · have := List.pairwise_iff_getElem.1 hw i j hi' hj' h; omega
  · subst h; rfl
  · have := List.pairwise_iff_getElem.1 hw j i hj' hi' h; omega
theorem put_impl {n : Nat} {h : SHouse} {x : SLot} (hl : h.Lots.length ≤ 1000000) (hi : incB h.Lots) (hr : rngB h.Lots) (hxr : 1 ≤ x.Id ∧ x.Id ≤ 1000000) (hx : ∀ y ∈ h.Lots, y.Id ≠ x.Id) : impl_House_put n h x = some ⟨putLot h.Lots x, h.Traders, h.Taken⟩ := by
  unfold impl_House_put
  rw [chk_dec (by simp; omega), put_sorted hl hi hr hxr hx, Option.bind_some]
end Go.Sm
end

section
set_option linter.unusedSimpArgs false
set_option linter.deprecated false
set_option linter.unusedSectionVars false
set_option linter.unusedVariables false
set_option linter.unusedSimpArgs false
namespace Go.Sm
attribute [local irreducible] bd chk ix loopN
/-! ### What a house that is right says -/
theorem house_facts {h : SHouse} (H : houseB h = true) : h.Lots.length ≤ 40 ∧ h.Traders.length ≤ 10 ∧ ∀ k, k < h.Lots.length → lotB h k = true := by
  unfold houseB at H
  simp only [Bool.and_eq_true, decide_eq_true_eq] at H
  exact ⟨H.1, H.2.1, fun k hk => List.all_eq_true.1 H.2.2.2.1 k (List.mem_range.2 hk)⟩
theorem lot_facts {h : SHouse} (H : houseB h = true) {k : Nat} (hk : k < h.Lots.length) : rightB (h.Lots.getD k dSLot) = true ∧ (1 ≤ (h.Lots.getD k dSLot).Id ∧ (h.Lots.getD k dSLot).Id ≤ 1000000) ∧ (k ≠ 0 → (h.Lots.getD (k - 1) dSLot).Id < (h.Lots.getD k dSLot).Id) ∧
    (0 ≤ (h.Lots.getD k dSLot).Owner ∧ (h.Lots.getD k dSLot).Owner < (h.Traders.length : Int)) ∧ condB (h.Lots.getD k dSLot) = true := by
  obtain ⟨h1, h2, h3⟩ := house_facts H
  have h4 := h3 k hk
  unfold lotB lotId at h4
  simp only [Bool.and_eq_true, Bool.or_eq_true, decide_eq_true_eq, Bool.not_eq_true', decide_eq_false_iff_not] at h4
  obtain ⟨g1, ⟨g2, g3⟩, g4, g5, g6⟩ := h4
  exact ⟨g1, g2, fun hne => by rcases g3 with g | g; exact absurd g hne; omega, own_lt h2 g4, g6⟩
theorem house_inc {h : SHouse} (H : houseB h = true) : incB h.Lots := by
  intro i j hij hj
  obtain ⟨m, rfl⟩ : ∃ m, j = i + 1 + m := ⟨j - i - 1, by omega⟩
  induction m with
  | zero => exact (lot_facts H hj).2.2.1 (by omega)
  | succ m ih =>
    have h1 := ih (by omega) (by omega)
    have h2 := (lot_facts H hj).2.2.1 (by omega)
    rw [show i + 1 + (m + 1) - 1 = i + 1 + m by omega] at h2
    omega
theorem house_rng {h : SHouse} (H : houseB h = true) : rngB h.Lots := by
  intro y hy
  obtain ⟨k, hk, rfl⟩ := List.mem_iff_getElem.1 hy
  have := (lot_facts H hk).2.1
  rwa [getD_eq hk] at this
/-! ### What a deed comes to -/
def rightD (d : SDeed) : Bool := rightB ⟨d.Id, d.Owner, d.Many, d.Value, d.Rate, 1, 0⟩
def badB (h : SHouse) (d : SDeed) : Bool := !houseB h || (!decide (1 ≤ d.Kind ∧ d.Kind ≤ 8) || (!decide (1 ≤ d.Id ∧ d.Id ≤ 1000000) ||
  (bif decide (d.Kind = 1) then !rightD d || !decide (0 ≤ d.Owner ∧ d.Owner ≤ w64 ((h.Traders.length : Int) - 1)) else bif decide (d.Kind = 8) then decide (d.Many < 1) || !decide (1 ≤ d.New ∧ d.New ≤ 1000000) else false)))
def fromI (k : Int) : Int := bif decide (k = 3) then 2 else bif decide (k = 6) then 3 else bif decide (k = 7) then 4 else 1
def coreD (h : SHouse) (d : SDeed) (k : Nat) (x : SLot) (t : STrader) : SHouse × Int :=
  bif decide (d.Kind = 2) then (⟨h.Lots.set k ⟨x.Id, x.Owner, x.Many, x.Value, x.Rate, 2, x.Bond⟩, h.Traders, h.Taken⟩, 0)
  else bif decide (d.Kind = 3) then (⟨h.Lots.set k ⟨x.Id, x.Owner, x.Many, x.Value, x.Rate, 1, x.Bond⟩, h.Traders, h.Taken⟩, 0)
  else bif decide (d.Kind = 4) then (bif decide (t.Money < dutyI x) then (h, 5) else bif decide (w64 (h.Taken + dutyI x) > 1000000000000000) then (h, 5) else (⟨h.Lots.set k ⟨x.Id, x.Owner, x.Many, x.Value, x.Rate, 4, x.Bond⟩, h.Traders.set x.Owner.toNat ⟨w64 (t.Money - dutyI x), t.Bond, t.Bound⟩, w64 (h.Taken + dutyI x)⟩, 0))
  else bif decide (d.Kind = 5) then (bif decide (w64 (t.Bond - t.Bound) < dutyI x) then (h, 5) else (⟨h.Lots.set k ⟨x.Id, x.Owner, x.Many, x.Value, x.Rate, 3, dutyI x⟩, h.Traders.set x.Owner.toNat ⟨t.Money, t.Bond, w64 (t.Bound + dutyI x)⟩, h.Taken⟩, 0))
  else bif decide (d.Kind = 6) then (⟨h.Lots.set k ⟨x.Id, x.Owner, x.Many, x.Value, x.Rate, 5, 0⟩, h.Traders.set x.Owner.toNat ⟨t.Money, t.Bond, w64 (t.Bound - x.Bond)⟩, h.Taken⟩, 0)
  else bif decide (d.Kind = 7) then (⟨h.Lots.set k ⟨x.Id, x.Owner, x.Many, x.Value, x.Rate, 5, x.Bond⟩, h.Traders, h.Taken⟩, 0)
  else bif hasB h.Lots d.New then (h, 2) else (⟨putLot (h.Lots.set k ⟨x.Id, x.Owner, w64 (x.Many - d.Many), x.Value, x.Rate, x.State, x.Bond⟩) ⟨d.New, x.Owner, d.Many, x.Value, x.Rate, x.State, x.Bond⟩, h.Traders, h.Taken⟩, 0)
def atD (h : SHouse) (d : SDeed) (k : Nat) : SHouse × Int :=
  bif !decide ((h.Lots.getD k dSLot).State = fromI d.Kind) then (h, 4) else bif decide (d.Kind = 8) && decide (d.Many ≥ (h.Lots.getD k dSLot).Many) then (h, 4) else coreD h d k (h.Lots.getD k dSLot) (h.Traders.getD (h.Lots.getD k dSLot).Owner.toNat dSTrader)
def goD (h : SHouse) (d : SDeed) : SHouse × Int :=
  bif decide (d.Kind = 1) then (bif hasB h.Lots d.Id then (h, 2) else (⟨putLot h.Lots ⟨d.Id, d.Owner, d.Many, d.Value, d.Rate, 1, 0⟩, h.Traders, h.Taken⟩, 0))
  else bif decide (findB h.Lots d.Id < 0) then (h, 3) else atD h d (findB h.Lots d.Id).toNat
def doD (h : SHouse) (d : SDeed) : SHouse × Int := bif badB h d then (h, 1) else goD h d
theorem bad_spec {n : Nat} (h : SHouse) (d : SDeed) (hn : 1000000000 < n) : spec_l16Bad n h d = some (badB h d) := by
  unfold spec_l16Bad badB spec_l16Bad_k0
  have hd : spec_Duty6 n d.Many d.Value d.Rate = some (bif rightD d then (dutyI ⟨d.Id, d.Owner, d.Many, d.Value, d.Rate, 1, 0⟩, true) else (0, false)) := duty_spec n ⟨d.Id, d.Owner, d.Many, d.Value, d.Rate, 1, 0⟩
  simp only [house_spec h hn, in_spec, Option.bind_some, hd, bd_eq]
  cases houseB h <;> cases decide (1 ≤ d.Kind ∧ d.Kind ≤ 8) <;> cases decide (1 ≤ d.Id ∧ d.Id ≤ 1000000) <;> cases decide (d.Kind = 1) <;> cases rightD d <;> cases decide (0 ≤ d.Owner ∧ d.Owner ≤ w64 ((h.Traders.length : Int) - 1)) <;> cases decide (d.Kind = 8) <;> cases decide (d.Many < 1) <;> cases decide (1 ≤ d.New ∧ d.New ≤ 1000000) <;> rfl
theorem own_lots (n : Nat) (l : List SLot) (hl : l.length ≤ 2000000) : impl_own_impl_Lot n l = some l := by
  unfold impl_own_impl_Lot
  rw [chk_dec (by omega), chk_dec (by omega), chk_dec (by omega)]
theorem own_traders (n : Nat) (l : List STrader) (hl : l.length ≤ 2000000) : impl_own_impl_Trader n l = some l := by
  unfold impl_own_impl_Trader
  rw [chk_dec (by omega), chk_dec (by omega), chk_dec (by omega)]
theorem own_house (n : Nat) (h : SHouse) (h1 : h.Lots.length ≤ 2000000) (h2 : h.Traders.length ≤ 2000000) : impl_House_own n h = some h := by
  unfold impl_House_own
  rw [own_lots n _ h1, Option.bind_some, own_traders n _ h2, Option.bind_some]
theorem copy_house (n : Nat) (h : SHouse) (h1 : h.Lots.length ≤ 2000000) (h2 : h.Traders.length ≤ 2000000) : spec_l16Copy n h = some h := by
  unfold spec_l16Copy
  rw [chk_dec (by omega), chk_dec (by omega)]
theorem lget {l : List SLot} {i : Nat} {x d : SLot} (h : i < l.length) : (l.set i x).getD i d = x := by simp [List.getD, h]
theorem tget {l : List STrader} {i : Nat} {x d : STrader} (h : i < l.length) : (l.set i x).getD i d = x := by simp [List.getD, h]
theorem tset {l : List STrader} {i : Nat} {d : STrader} (h : i < l.length) : l.set i (l.getD i d) = l := by
  apply List.ext_getElem
  · simp
  · intro j h1 h2
    rw [List.getElem_set]
    split
    · rename_i e; subst e; exact getD_eq h
    · rfl
/-- The numbers of lots one of which has been turned. -/
theorem ids_set {l : List SLot} {k : Nat} {x : SLot} (hk : k < l.length) (hx : x.Id = (l.getD k dSLot).Id) (i : Nat) : ((l.set k x).getD i dSLot).Id = (l.getD i dSLot).Id := by
  by_cases e : i = k
  · subst e; rw [lget hk, hx]
  · simp [List.getD, List.getElem?_set, Ne.symm e]
theorem mem_ids {l l' : List SLot} (hl : l'.length = l.length) (h : ∀ i, (l'.getD i dSLot).Id = (l.getD i dSLot).Id) {P : Int → Prop} (hp : ∀ y ∈ l, P y.Id) : ∀ y ∈ l', P y.Id := fun y hy => by
  obtain ⟨i, hi, rfl⟩ := List.mem_iff_getElem.1 hy
  have := h i
  rw [getD_eq hi, getD_eq (show i < l.length by omega)] at this
  rw [this]
  exact hp _ (List.getElem_mem _)
section
variable {n : Nat} {h : SHouse} {d : SDeed} {k : Nat} (hn : 1000000000 < n) (H : houseB h = true) (hk : k < h.Lots.length) (hK : 2 ≤ d.Kind ∧ d.Kind ≤ 8)
include hn H hk hK
theorem core_impl (hs : d.Kind = 8 → 1 ≤ d.New ∧ d.New ≤ 1000000) : impl_DoDeed_k3 n k (h.Lots.getD k dSLot).Owner.toNat d h.Taken h.Lots h.Traders h.Taken h.Lots h.Traders = some (coreD h d k (h.Lots.getD k dSLot) (h.Traders.getD (h.Lots.getD k dSLot).Owner.toNat dSTrader)) := by
  obtain ⟨h1, h2, _⟩ := house_facts H
  obtain ⟨g1, g2, g3, g4, g5⟩ := lot_facts H hk
  have ho : (h.Lots.getD k dSLot).Owner.toNat < h.Traders.length := by omega
  unfold impl_DoDeed_k3 coreD
  by_cases k2 : d.Kind = 2
  · rw [decide_eq_true k2]
    simp only [cond_true, chk_dec hk, bd_eq]
    rw [own_house n _ (by simp; omega) (by dsimp only; omega)]; rfl
  rw [decide_eq_false k2]
  by_cases k3 : d.Kind = 3
  · rw [decide_eq_true k3]
    simp only [cond_true, cond_false, chk_dec hk, bd_eq]
    rw [own_house n _ (by simp; omega) (by dsimp only; omega)]; rfl
  rw [decide_eq_false k3]
  by_cases k4 : d.Kind = 4
  · rw [decide_eq_true k4]
    simp only [cond_true, cond_false, chk_dec hk, chk_dec ho, bd_eq, duty_impl n _ g1, Option.bind_some]
    cases decide ((h.Traders.getD (h.Lots.getD k dSLot).Owner.toNat dSTrader).Money < dutyI (h.Lots.getD k dSLot)) with
    | true => rfl
    | false =>
      cases decide (w64 (h.Taken + dutyI (h.Lots.getD k dSLot)) > 1000000000000000) with
      | true => rfl
      | false =>
        simp only [cond_false]
        unfold impl_DoDeed_k0
        simp only [chk_dec hk, chk_dec ho, bd_eq]
        rw [own_house n _ (by simp; omega) (by simp; omega)]; rfl
  rw [decide_eq_false k4]
  by_cases k5 : d.Kind = 5
  · rw [decide_eq_true k5]
    simp only [cond_true, cond_false, chk_dec hk, chk_dec ho, bd_eq, duty_impl n _ g1, Option.bind_some]
    cases decide (w64 ((h.Traders.getD (h.Lots.getD k dSLot).Owner.toNat dSTrader).Bond - (h.Traders.getD (h.Lots.getD k dSLot).Owner.toNat dSTrader).Bound) < dutyI (h.Lots.getD k dSLot)) with
    | true => rfl
    | false =>
      simp only [cond_false]
      unfold impl_DoDeed_k1
      simp only [chk_dec hk, chk_dec ho, bd_eq, List.length_set, lget hk, List.set_set]
      rw [own_house n _ (by simp; omega) (by simp; omega)]; rfl
  rw [decide_eq_false k5]
  by_cases k6 : d.Kind = 6
  · rw [decide_eq_true k6]
    simp only [cond_true, cond_false, chk_dec hk, chk_dec ho, bd_eq, List.length_set, lget hk, List.set_set]
    rw [own_house n _ (by simp; omega) (by simp; omega)]; rfl
  rw [decide_eq_false k6]
  by_cases k7 : d.Kind = 7
  · rw [decide_eq_true k7]
    simp only [cond_true, cond_false, chk_dec hk, chk_dec ho, bd_eq]
    rw [own_house n _ (by simp; omega) (by dsimp only; omega)]; rfl
  have k8 : d.Kind = 8 := by omega
  rw [decide_eq_false k7, decide_eq_true k8]
  simp only [cond_true, cond_false]
  have hh : impl_DoDeed_1 n d.New (⟨h.Lots, h.Traders, h.Taken⟩ : SHouse) = some (hasB h.Lots d.New) := has_impl ⟨h.Lots, h.Traders, h.Taken⟩ d.New (by show h.Lots.length ≤ _; omega) hn
  rw [hh, Option.bind_some]
  cases hB : hasB h.Lots d.New with
  | true => rfl
  | false =>
    simp only [cond_false]
    unfold impl_DoDeed_k2
    simp only [chk_dec hk, bd_eq, List.length_set, lget hk]
    unfold hasB at hB
    simp only [Bool.or_eq_false_iff, decide_eq_false_iff_not] at hB
    have hid := ids_set (l := h.Lots) (k := k) (x := ⟨(h.Lots.getD k dSLot).Id, (h.Lots.getD k dSLot).Owner, w64 ((h.Lots.getD k dSLot).Many - d.Many), (h.Lots.getD k dSLot).Value, (h.Lots.getD k dSLot).Rate, (h.Lots.getD k dSLot).State, (h.Lots.getD k dSLot).Bond⟩) hk rfl
    have hlen : (h.Lots.set k ⟨(h.Lots.getD k dSLot).Id, (h.Lots.getD k dSLot).Owner, w64 ((h.Lots.getD k dSLot).Many - d.Many), (h.Lots.getD k dSLot).Value, (h.Lots.getD k dSLot).Rate, (h.Lots.getD k dSLot).State, (h.Lots.getD k dSLot).Bond⟩).length = h.Lots.length := by simp
    generalize h.Lots.set k ⟨(h.Lots.getD k dSLot).Id, (h.Lots.getD k dSLot).Owner, w64 ((h.Lots.getD k dSLot).Many - d.Many), (h.Lots.getD k dSLot).Value, (h.Lots.getD k dSLot).Rate, (h.Lots.getD k dSLot).State, (h.Lots.getD k dSLot).Bond⟩ = L at hid hlen ⊢
    rw [put_impl (h := ⟨L, h.Traders, h.Taken⟩) (by show L.length ≤ _; omega) (fun i j hij hj => by
        show (L.getD i dSLot).Id < (L.getD j dSLot).Id
        rw [hid, hid]; exact house_inc H i j hij (by have : j < L.length := hj; omega)) (mem_ids (P := fun z => 1 ≤ z ∧ z ≤ 1000000) hlen hid (house_rng H)) (hs k8) (mem_ids (P := fun z => z ≠ d.New) hlen hid (find_neg hB.1)), Option.bind_some]
    have hw : (putLot L ⟨d.New, (h.Lots.getD k dSLot).Owner, d.Many, (h.Lots.getD k dSLot).Value, (h.Lots.getD k dSLot).Rate, (h.Lots.getD k dSLot).State, (h.Lots.getD k dSLot).Bond⟩).length = L.length + 1 := by
      have := (with_perm L ⟨d.New, (h.Lots.getD k dSLot).Owner, d.Many, (h.Lots.getD k dSLot).Value, (h.Lots.getD k dSLot).Rate, (h.Lots.getD k dSLot).State, (h.Lots.getD k dSLot).Bond⟩).length_eq
      simpa using this
    rw [own_house n _ (by dsimp only; omega) (by dsimp only; omega)]; rfl
end
end Go.Sm
end

section
set_option linter.unusedSimpArgs false
set_option linter.deprecated false
set_option linter.unusedSectionVars false
set_option linter.unusedVariables false
set_option linter.unusedSimpArgs false
namespace Go.Sm
attribute [local irreducible] bd chk ix loopN
section
variable {n : Nat} {h : SHouse} {d : SDeed} {k : Nat} (hn : 1000000000 < n) (H : houseB h = true) (hk : k < h.Lots.length) (hK : 2 ≤ d.Kind ∧ d.Kind ≤ 8)
include hn H hk hK
theorem at_impl (hs : d.Kind = 8 → 1 ≤ d.New ∧ d.New ≤ 1000000) : impl_DoDeed_k8 n (k : Int) d h.Taken h.Lots h.Traders h.Taken h.Lots h.Traders = some (atD h d k) := by
  obtain ⟨h1, h2, _⟩ := house_facts H
  obtain ⟨g1, g2, g3, g4, g5⟩ := lot_facts H hk
  have hc := core_impl hn H hk hK hs
  have key : ∀ c : Int, fromI d.Kind = c → (chk (decide (k < h.Lots.length)) ((bif (!(decide ((h.Lots.getD k dSLot).State = c))) then some ((⟨h.Lots, h.Traders, h.Taken⟩ : SHouse), (4 : Int)) else (bif (decide (d.Kind = (8 : Int))) then chk (decide (k < h.Lots.length)) ((bif (decide (d.Many ≥ (h.Lots.getD k dSLot).Many)) then some ((⟨h.Lots, h.Traders, h.Taken⟩ : SHouse), (4 : Int)) else impl_DoDeed_k3 n  k (h.Lots.getD k dSLot).Owner.toNat d h.Taken h.Lots h.Traders h.Taken h.Lots h.Traders)) else impl_DoDeed_k3 n  k (h.Lots.getD k dSLot).Owner.toNat d h.Taken h.Lots h.Traders h.Taken h.Lots h.Traders)))) = some (atD h d k) := fun c e => by
    unfold atD
    rw [chk_dec hk, chk_dec hk, hc, e]
    cases decide ((h.Lots.getD k dSLot).State = c) <;> cases decide (d.Kind = 8) <;> cases decide (d.Many ≥ (h.Lots.getD k dSLot).Many) <;> rfl
  unfold impl_DoDeed_k8
  simp only [ix_nat hk, chk_true, chk_dec hk, Int.toNat_natCast, ix_of g4.1 g4.2]
  by_cases k3 : d.Kind = 3
  · rw [decide_eq_true k3, cond_true]
    exact key 2 (by unfold fromI; rw [decide_eq_true k3]; rfl)
  rw [decide_eq_false k3, cond_false]
  by_cases k6 : d.Kind = 6
  · rw [decide_eq_true k6, cond_true]
    exact key 3 (by unfold fromI; rw [decide_eq_false k3, decide_eq_true k6]; rfl)
  rw [decide_eq_false k6, cond_false]
  by_cases k7 : d.Kind = 7
  · rw [decide_eq_true k7, cond_true]
    exact key 4 (by unfold fromI; rw [decide_eq_false k3, decide_eq_false k6, decide_eq_true k7]; rfl)
  rw [decide_eq_false k7, cond_false]
  exact key 1 (by unfold fromI; rw [decide_eq_false k3, decide_eq_false k6, decide_eq_false k7]; rfl)
theorem core_spec (hs8 : d.Kind = 8 → (h.Lots.getD k dSLot).State = 1) (hs6 : d.Kind = 6 → (h.Lots.getD k dSLot).State = 3) : spec_DoDeed_k8 n (k : Int) h d h.Taken h.Lots h.Traders (h.Lots.getD k dSLot) = some (coreD h d k (h.Lots.getD k dSLot) (h.Traders.getD (h.Lots.getD k dSLot).Owner.toNat dSTrader)) := by
  obtain ⟨h1, h2, _⟩ := house_facts H
  obtain ⟨g1, g2, g3, g4, g5⟩ := lot_facts H hk
  have ho : (h.Lots.getD k dSLot).Owner.toNat < h.Traders.length := by omega
  unfold spec_DoDeed_k8 coreD
  rw [duty_spec, g1, cond_true, Option.bind_some, ix_of g4.1 g4.2]
  simp only [bd_eq]
  by_cases k2 : d.Kind = 2
  · rw [decide_eq_true k2]
    unfold spec_DoDeed_k0
    simp only [cond_true, cond_false, ix_nat hk, chk_true, chk_dec hk, chk_dec ho, Int.toNat_natCast, bd_eq, ix_of g4.1 g4.2, tset ho]
  rw [decide_eq_false k2]
  by_cases k3 : d.Kind = 3
  · rw [decide_eq_true k3]
    unfold spec_DoDeed_k1
    simp only [cond_true, cond_false, ix_nat hk, chk_true, chk_dec hk, chk_dec ho, Int.toNat_natCast, bd_eq, ix_of g4.1 g4.2, tset ho]
  rw [decide_eq_false k3]
  by_cases k4 : d.Kind = 4
  · rw [decide_eq_true k4]
    unfold spec_DoDeed_k2
    simp only [cond_true, cond_false, ix_nat hk, chk_true, chk_dec hk, chk_dec ho, Int.toNat_natCast, bd_eq, ix_of g4.1 g4.2]
    cases decide ((h.Traders.getD (h.Lots.getD k dSLot).Owner.toNat dSTrader).Money < dutyI (h.Lots.getD k dSLot)) <;> cases decide (w64 (h.Taken + dutyI (h.Lots.getD k dSLot)) > 1000000000000000) <;> rfl
  rw [decide_eq_false k4]
  by_cases k5 : d.Kind = 5
  · rw [decide_eq_true k5]
    unfold spec_DoDeed_k3
    simp only [cond_true, cond_false, ix_nat hk, chk_true, chk_dec hk, chk_dec ho, Int.toNat_natCast, bd_eq, ix_of g4.1 g4.2]
    cases decide (w64 ((h.Traders.getD (h.Lots.getD k dSLot).Owner.toNat dSTrader).Bond - (h.Traders.getD (h.Lots.getD k dSLot).Owner.toNat dSTrader).Bound) < dutyI (h.Lots.getD k dSLot)) <;> rfl
  rw [decide_eq_false k5]
  by_cases k6 : d.Kind = 6
  · have e := g5
    unfold condB at e
    rw [decide_eq_true (hs6 k6), cond_true, decide_eq_true_eq] at e
    rw [decide_eq_true k6]
    unfold spec_DoDeed_k4
    simp only [cond_true, cond_false, ix_nat hk, chk_true, chk_dec hk, chk_dec ho, Int.toNat_natCast, bd_eq, ix_of g4.1 g4.2, e]
  rw [decide_eq_false k6]
  by_cases k7 : d.Kind = 7
  · rw [decide_eq_true k7]
    unfold spec_DoDeed_k5
    simp only [cond_true, cond_false, ix_nat hk, chk_true, chk_dec hk, chk_dec ho, Int.toNat_natCast, bd_eq, ix_of g4.1 g4.2, tset ho]
  have k8 : d.Kind = 8 := by omega
  rw [decide_eq_false k7, decide_eq_true k8]
  simp only [cond_true, cond_false]
  rw [find_spec h d.New (by omega) hn, Option.bind_some]
  unfold hasB
  cases decide (findB h.Lots d.New ≥ 0) with
  | true => rfl
  | false =>
    simp only [cond_false, Bool.false_or]
    cases decide ((h.Lots.length : Int) = 40) with
    | true => rfl
    | false =>
      simp only [cond_false]
      have e := g5
      unfold condB at e
      rw [decide_eq_false (show ¬ (h.Lots.getD k dSLot).State = 3 by rw [hs8 k8]; omega), cond_false, decide_eq_true_eq] at e
      unfold spec_DoDeed_k6
      simp only [ix_nat hk, chk_true, chk_dec hk, Int.toNat_natCast, bd_eq]
      rw [with_spec _ _ (by simp; omega) hn, Option.bind_some, hs8 k8, e]
theorem at_spec : spec_DoDeed_k9 n (k : Int) h d h.Taken h.Lots h.Traders = some (atD h d k) := by
  unfold spec_DoDeed_k9 atD
  have hf : spec_l16From n d.Kind = some (fromI d.Kind) := by
    unfold spec_l16From fromI
    cases decide (d.Kind = 3) <;> cases decide (d.Kind = 6) <;> cases decide (d.Kind = 7) <;> rfl
  simp only [ix_nat hk, Int.toNat_natCast, bd_eq, hf, Option.bind_some]
  by_cases hst : (h.Lots.getD k dSLot).State = fromI d.Kind
  · have hc := core_spec hn H hk hK (fun e => by rw [hst]; unfold fromI; rw [e]; rfl) (fun e => by rw [hst]; unfold fromI; rw [e]; rfl)
    rw [hc, decide_eq_true hst]
    cases decide (d.Kind = 8) <;> cases decide (d.Many ≥ (h.Lots.getD k dSLot).Many) <;> rfl
  · rw [decide_eq_false hst]
    rfl
end
theorem find_nat {l : List SLot} {id : Int} (h : ¬ findB l id < 0) : ∃ k : Nat, findB l id = (k : Int) ∧ k < l.length := by
  rcases idxOf_spec (fun k => decide ((l.getD k dSLot).Id = id)) l.length with ⟨h1, _⟩ | ⟨k, h1, h2, _⟩
  · exact absurd (show findB l id < 0 from by show idxOf _ _ < 0; omega) h
  · exact ⟨k, h1, h2⟩
theorem go_spec {n : Nat} {h : SHouse} {d : SDeed} (hn : 1000000000 < n) (hb : badB h d = false) : spec_DoDeed_k10 n h d h.Taken h.Lots h.Traders = some (goD h d) := by
  unfold badB at hb
  simp only [Bool.or_eq_false_iff, Bool.not_eq_false', decide_eq_true_eq] at hb
  obtain ⟨H, hK, hI, _⟩ := hb
  obtain ⟨h1, h2, _⟩ := house_facts H
  unfold spec_DoDeed_k10 goD
  rw [find_spec h d.Id (by omega) hn, Option.bind_some]
  by_cases k1 : d.Kind = 1
  · rw [decide_eq_true k1]
    simp only [cond_true]
    unfold hasB
    cases decide (findB h.Lots d.Id ≥ 0) with
    | true => rfl
    | false =>
      cases decide ((h.Lots.length : Int) = 40) with
      | true => rfl
      | false =>
        simp only [cond_false, Bool.false_or]
        rw [with_spec _ _ (by dsimp only; omega) hn, Option.bind_some]
  · rw [decide_eq_false k1]
    simp only [cond_false]
    by_cases hf : findB h.Lots d.Id < 0
    · rw [decide_eq_true hf]; rfl
    · rw [decide_eq_false hf]
      obtain ⟨k, e, hk⟩ := find_nat hf
      rw [e]
      simp only [cond_false, Int.toNat_natCast]
      exact at_spec hn H hk (by omega)
theorem do_spec {n : Nat} (h : SHouse) (d : SDeed) (h1 : h.Lots.length ≤ 2000000) (h2 : h.Traders.length ≤ 2000000) (hn : 1000000000 < n) : spec_DoDeed n h d = some (doD h d) := by
  unfold spec_DoDeed doD
  rw [copy_house n h h1 h2, Option.bind_some, bad_spec h d hn, Option.bind_some]
  cases hb : badB h d with
  | true => rfl
  | false => exact go_spec hn hb
theorem go_impl {n : Nat} {h : SHouse} {d : SDeed} (hn : 1000000000 < n) (hb : badB h d = false) : impl_DoDeed_k9 n h d h.Taken h.Lots h.Traders = some (goD h d) := by
  unfold badB at hb
  simp only [Bool.or_eq_false_iff, Bool.not_eq_false', decide_eq_true_eq] at hb
  obtain ⟨H, hK, hI, hX⟩ := hb
  obtain ⟨h1, h2, _⟩ := house_facts H
  unfold impl_DoDeed_k9 goD
  rw [own_house n h (by omega) (by omega), Option.bind_some]
  by_cases k1 : d.Kind = 1
  · rw [decide_eq_true k1]
    simp only [cond_true]
    rw [has_impl h d.Id (by omega) hn, Option.bind_some]
    cases hB : hasB h.Lots d.Id with
    | true => rfl
    | false =>
      simp only [cond_false]
      unfold hasB at hB
      simp only [Bool.or_eq_false_iff, decide_eq_false_iff_not] at hB
      have hw : (putLot h.Lots ⟨d.Id, d.Owner, d.Many, d.Value, d.Rate, 1, 0⟩).length = h.Lots.length + 1 := by
        have := (with_perm h.Lots ⟨d.Id, d.Owner, d.Many, d.Value, d.Rate, 1, 0⟩).length_eq
        simpa using this
      rw [put_impl (by omega) (house_inc H) (house_rng H) hI (find_neg hB.1), Option.bind_some, own_house n _ (by dsimp only; omega) (by dsimp only; omega)]
      rfl
  · rw [decide_eq_false k1]
    simp only [cond_false]
    rw [lot_impl h d.Id (by omega) hn, Option.bind_some]
    by_cases hf : findB h.Lots d.Id < 0
    · rw [decide_eq_true hf]; rfl
    · rw [decide_eq_false hf]
      obtain ⟨k, e, hk⟩ := find_nat hf
      rw [e]
      simp only [cond_false, Int.toNat_natCast]
      refine at_impl hn H hk (by omega) fun k8 => ?_
      rw [decide_eq_false k1, decide_eq_true k8] at hX
      simp only [cond_false, cond_true, Bool.or_eq_false_iff, Bool.not_eq_false', decide_eq_true_eq, decide_eq_false_iff_not] at hX
      exact hX.2
theorem do_impl {n : Nat} (h : SHouse) (d : SDeed) (h1 : h.Lots.length ≤ 2000000) (h2 : h.Traders.length ≤ 2000000) (hn : 1000000000 < n) : impl_DoDeed n h d = some (doD h d) := by
  unfold impl_DoDeed doD
  rw [own_house n h h1 h2, Option.bind_some, house_impl h hn, Option.bind_some]
  have hr : impl_lotRight n d.Many d.Value d.Rate = some (rightD d) := right_impl n ⟨d.Id, d.Owner, d.Many, d.Value, d.Rate, 1, 0⟩
  simp only [in_impl, id_impl3, Option.bind_some, bd_eq, hr]
  cases hb : badB h d with
  | true =>
    unfold badB at hb
    revert hb
    by_cases k1 : d.Kind = 1
    · rw [decide_eq_true k1, decide_eq_false (show ¬ d.Kind = 8 by omega)]
      cases houseB h <;> cases decide (1 ≤ d.Kind ∧ d.Kind ≤ 8) <;> cases decide (1 ≤ d.Id ∧ d.Id ≤ 1000000) <;> cases decide (0 ≤ d.Owner ∧ d.Owner ≤ w64 ((h.Traders.length : Int) - 1)) <;> cases rightD d <;> intro hb <;> first | rfl | cases hb
    · rw [decide_eq_false k1]
      cases houseB h <;> cases decide (1 ≤ d.Kind ∧ d.Kind ≤ 8) <;> cases decide (1 ≤ d.Id ∧ d.Id ≤ 1000000) <;> cases decide (d.Kind = 8) <;> cases decide (d.Many < 1) <;> cases decide (1 ≤ d.New ∧ d.New ≤ 1000000) <;> intro hb <;> first | rfl | cases hb
  | false =>
    rw [go_impl hn hb]
    unfold badB at hb
    revert hb
    by_cases k1 : d.Kind = 1
    · rw [decide_eq_true k1, decide_eq_false (show ¬ d.Kind = 8 by omega)]
      cases houseB h <;> cases decide (1 ≤ d.Kind ∧ d.Kind ≤ 8) <;> cases decide (1 ≤ d.Id ∧ d.Id ≤ 1000000) <;> cases decide (0 ≤ d.Owner ∧ d.Owner ≤ w64 ((h.Traders.length : Int) - 1)) <;> cases rightD d <;> intro hb <;> first | rfl | cases hb
    · rw [decide_eq_false k1]
      cases houseB h <;> cases decide (1 ≤ d.Kind ∧ d.Kind ≤ 8) <;> cases decide (1 ≤ d.Id ∧ d.Id ≤ 1000000) <;> cases decide (d.Kind = 8) <;> cases decide (d.Many < 1) <;> cases decide (1 ≤ d.New ∧ d.New ≤ 1000000) <;> intro hb <;> first | rfl | cases hb
theorem cond_p {α : Type} {P : α → Prop} {b : Bool} {x y : α} (hx : P x) (hy : P y) : P (bif b then x else y) := by cases b <;> assumption
def lenP (h : SHouse) (r : SHouse × Int) : Prop := r.1.Lots.length ≤ h.Lots.length + 1 ∧ r.1.Traders.length = h.Traders.length
theorem doD_len (h : SHouse) (d : SDeed) : lenP h (doD h d) := by
  have hw : ∀ (l : List SLot) (x : SLot), (putLot l x).length = l.length + 1 := fun l x => by
    have := (with_perm l x).length_eq
    simpa using this
  unfold doD goD atD coreD
  repeat' (refine cond_p ?_ ?_)
  all_goals (unfold lenP; simp [hw])
end Go.Sm
end

section
set_option linter.unusedSimpArgs false
set_option linter.deprecated false
set_option linter.unusedSectionVars false
set_option linter.unusedVariables false
set_option linter.unusedSimpArgs false
namespace Go.Sm
attribute [local irreducible] bd chk ix loopN
def runD (h : SHouse) (l : List SDeed) : SHouse × List Int := l.foldl (fun s d => ((doD s.1 d).1, s.2 ++ [(doD s.1 d).2])) (h, [])
theorem runD_succ (h : SHouse) (l : List SDeed) {k : Nat} (hk : k < l.length) : runD h (l.take (k + 1)) = ((doD (runD h (l.take k)).1 (l.getD k dSDeed)).1, (runD h (l.take k)).2 ++ [(doD (runD h (l.take k)).1 (l.getD k dSDeed)).2]) := by
  unfold runD
  rw [take_succ_getD (d := dSDeed) hk, List.foldl_append]
  rfl
theorem runD_len (h : SHouse) (l : List SDeed) : ∀ k, k ≤ l.length → (runD h (l.take k)).1.Lots.length ≤ h.Lots.length + k ∧ (runD h (l.take k)).1.Traders.length = h.Traders.length ∧ (runD h (l.take k)).2.length = k
  | 0, _ => ⟨Nat.le_refl _, rfl, rfl⟩
  | k + 1, hk => by
    obtain ⟨h1, h2, h3⟩ := runD_len h l k (by omega)
    rw [runD_succ h l (by omega)]
    obtain ⟨g1, g2⟩ := doD_len (runD h (l.take k)).1 (l.getD k dSDeed)
    exact ⟨by dsimp only; omega, by dsimp only; omega, by simp [h3]⟩
def runsD (h : SHouse) (l : List SDeed) : SHouse × List Int := if l.length ≤ 200 then runD h l else (h, [])
theorem own_ints (n : Nat) (l : List Int) (hl : l.length ≤ 1048576) : impl_own_int n l = some l := by
  unfold impl_own_int
  rw [chk_dec (by omega), chk_dec (by omega), chk_dec (by omega)]
theorem runs_impl {n : Nat} (h : SHouse) (l : List SDeed) (h1 : h.Lots.length ≤ 1048576) (h2 : h.Traders.length ≤ 1048576) (hl : l.length ≤ 1048576) (hn : 1000000000 < n) : impl_RunDeeds n h l = some (runsD h l) := by
  unfold impl_RunDeeds runsD
  rw [own_house n h (by omega) (by omega), Option.bind_some]
  by_cases h200 : l.length ≤ 200
  · rw [if_pos h200, decide_eq_false (show ¬ (l.length : Int) > 200 by omega), cond_false]
    unfold impl_RunDeeds_k1
    refine loop_runS (S := SHouse × List Int) (X := Int × Int × List SLot × List STrader × List Int) (enc := fun i s => (i, s.1.Taken, s.1.Lots, s.1.Traders, s.2)) (len := l.length) (I := fun k s => s = runD h (l.take k)) (Q := fun r => r = some (runD h l)) (fun k s J hk hi => ?_) (fun s J hi => ?_) (n := n) (by omega) (s0 := (h, [])) rfl
    · refine ⟨runD h (l.take (k + 1)), rfl, ?_⟩
      obtain ⟨g1, g2, g3⟩ := runD_len h l k (by omega)
      subst hi
      unfold impl_RunDeeds_L6 impl_RunDeeds_k0
      have hd : impl_DoDeed n (⟨(runD h (l.take k)).1.Lots, (runD h (l.take k)).1.Traders, (runD h (l.take k)).1.Taken⟩ : SHouse) (l.getD k dSDeed) = some (doD (runD h (l.take k)).1 (l.getD k dSDeed)) := do_impl _ _ (by dsimp only; omega) (by dsimp only; omega) hn
      simp only [Int.ofNat_lt, hk, decide_true, cond_true, ix_nat hk, bd_eq, Int.toNat_natCast, hd, Option.bind_some, w64_succ (show k < 9223372036854775807 by omega)]
      rw [chk_dec (by simp; omega), runD_succ h l hk]
    · unfold impl_RunDeeds_L6
      simp only [Int.lt_irrefl, decide_false, cond_false]
      have g := runD_len h l l.length (Nat.le_refl _)
      rw [List.take_length] at g hi
      subst hi
      rw [own_ints n _ (by omega)]
      rfl
  · rw [if_neg h200, decide_eq_true (show (l.length : Int) > 200 by omega), cond_true]
theorem runsD_len (h : SHouse) (l : List SDeed) : (runsD h l).1.Lots.length ≤ h.Lots.length + 200 ∧ (runsD h l).1.Traders.length = h.Traders.length ∧ (runsD h l).2.length ≤ 200 := by
  unfold runsD
  by_cases h200 : l.length ≤ 200
  · rw [if_pos h200]
    have g := runD_len h l l.length (Nat.le_refl _)
    rw [List.take_length] at g
    exact ⟨by omega, g.2.1, by omega⟩
  · rw [if_neg h200]; exact ⟨Nat.le_add_right _ _, rfl, Nat.zero_le _⟩
end Go.Sm
end

section
set_option linter.unusedSimpArgs false
set_option linter.deprecated false
set_option linter.unusedSectionVars false
set_option linter.unusedVariables false
set_option linter.unusedSimpArgs false
namespace Go.Sm
attribute [local irreducible] bd chk ix loopN
/-! ### Sums -/
def isum {α : Type} (f : α → Int) : List α → Int
  | [] => 0
  | x :: l => f x + isum f l
theorem isum_append {α : Type} (f : α → Int) : ∀ a b : List α, isum f (a ++ b) = isum f a + isum f b
  | [], b => (Int.zero_add _).symm
  | x :: a, b => by
    show f x + isum f (a ++ b) = f x + isum f a + isum f b
    rw [isum_append f a b]
    omega
theorem isum_perm {α : Type} {f : α → Int} {a b : List α} (h : a.Perm b) : isum f a = isum f b := by
  induction h with
  | nil => rfl
  | cons x _ ih =>
    show f x + isum f _ = f x + isum f _
    rw [ih]
  | swap x y l =>
    show f y + (f x + isum f l) = f x + (f y + isum f l)
    omega
  | trans _ _ h1 h2 => exact h1.trans h2
theorem isum_set {α : Type} {f : α → Int} {d x : α} : ∀ {l : List α} {k : Nat}, k < l.length → isum f (l.set k x) = isum f l - f (l.getD k d) + f x
  | [], k, h => absurd h (Nat.not_lt_zero _)
  | y :: l, 0, _ => by
    show f x + isum f l = f y + isum f l - f y + f x
    omega
  | y :: l, k + 1, h => by
    have := isum_set (f := f) (d := d) (x := x) (l := l) (k := k) (Nat.lt_of_succ_lt_succ h)
    show f y + isum f (l.set k x) = f y + isum f l - f (l.getD k d) + f x
    omega
theorem isum_take {α : Type} {f : α → Int} {d : α} {l : List α} {k : Nat} (h : k < l.length) : isum f (l.take (k + 1)) = isum f (l.take k) + f (l.getD k d) := by
  rw [take_succ_getD (d := d) h, isum_append]
  show _ + (f _ + 0) = _
  omega
theorem isum_rng {α : Type} {f : α → Int} {B : Int} : ∀ {l : List α}, (∀ x ∈ l, 0 ≤ f x ∧ f x ≤ B) → 0 ≤ isum f l ∧ isum f l ≤ B * (l.length : Int)
  | [], _ => ⟨Int.le_refl _, by show (0 : Int) ≤ B * 0; omega⟩
  | x :: l, h => by
    have h1 := h x (List.mem_cons_self ..)
    have h2 := isum_rng (l := l) fun y hy => h y (List.mem_cons_of_mem _ hy)
    have h3 : B * ((x :: l).length : Int) = B * (l.length : Int) + B := by
      rw [List.length_cons, Int.natCast_succ, Int.mul_add, Int.mul_one]
    rw [h3]
    show 0 ≤ f x + isum f l ∧ f x + isum f l ≤ _
    omega
/-! ### A house in order -/
def bondOf (k : Int) (x : SLot) : Int := if x.Owner = k then x.Bond else 0
structure LK (m : Nat) (x : SLot) : Prop where
  right : rightB x = true
  id : 1 ≤ x.Id ∧ x.Id ≤ 1000000
  own : 0 ≤ x.Owner ∧ x.Owner < (m : Int)
  st : 1 ≤ x.State ∧ x.State ≤ 5
  cond : condB x = true
structure TK (t : STrader) (su : Int) : Prop where
  m : 0 ≤ t.Money ∧ t.Money ≤ 1000000000000000
  b : 0 ≤ t.Bond ∧ t.Bond ≤ 1000000000000000
  u : 0 ≤ t.Bound ∧ t.Bound ≤ t.Bond
  e : t.Bound = su
structure HK (h : SHouse) : Prop where
  nl : h.Lots.length ≤ 40
  nt : h.Traders.length ≤ 10
  tk : 0 ≤ h.Taken ∧ h.Taken ≤ 1000000000000000
  lots : ∀ x ∈ h.Lots, LK h.Traders.length x
  inc : h.Lots.Pairwise fun a b => a.Id < b.Id
  trd : ∀ k, k < h.Traders.length → TK (h.Traders.getD k dSTrader) (isum (bondOf (k : Int)) h.Lots)
theorem right_rng {x : SLot} (h : rightB x = true) : (1 ≤ x.Many ∧ x.Many ≤ 1000000) ∧ (0 ≤ x.Value ∧ x.Value ≤ 1000000) ∧ (0 ≤ x.Rate ∧ x.Rate ≤ 5000) := by
  unfold rightB at h
  simpa only [Bool.and_eq_true, decide_eq_true_eq] using h
theorem duty_rng {x : SLot} (h : rightB x = true) : 0 ≤ dutyI x ∧ dutyI x ≤ 5000000000000 := by
  obtain ⟨h1, h2, h3⟩ := right_rng h
  have a1 : x.Many * x.Value ≤ 1000000 * 1000000 := Int.mul_le_mul h1.2 h2.2 h2.1 (by omega)
  have a2 : 0 ≤ x.Many * x.Value := Int.mul_nonneg (by omega) h2.1
  have a3 : x.Many * x.Value * x.Rate ≤ 1000000 * 1000000 * 5000 := Int.mul_le_mul a1 h3.2 h3.1 (by omega)
  have a4 : 0 ≤ x.Many * x.Value * x.Rate := Int.mul_nonneg a2 h3.1
  unfold dutyI
  rw [w64_id (x := x.Many * x.Value) (by omega) (by omega), w64_id (x := x.Many * x.Value * x.Rate) (by omega) (by omega), Int.tdiv_eq_ediv_of_nonneg a4, w64_id (by omega) (by omega)]
  omega
theorem LK.bond {m : Nat} {x : SLot} (h : LK m x) : 0 ≤ x.Bond ∧ x.Bond ≤ 5000000000000 := by
  have h1 := h.cond
  have h2 := duty_rng h.right
  unfold condB at h1
  by_cases e : x.State = 3
  · rw [decide_eq_true e, cond_true, decide_eq_true_eq] at h1
    omega
  · rw [decide_eq_false e, cond_false, decide_eq_true_eq] at h1
    omega
theorem bondOf_rng {m : Nat} {x : SLot} (h : LK m x) (k : Int) : 0 ≤ bondOf k x ∧ bondOf k x ≤ 5000000000000 := by
  have := h.bond
  unfold bondOf
  split <;> omega
theorem bnd_sum {h : SHouse} (H : HK h) : ∀ n, n ≤ h.Lots.length → ∀ k, k < h.Traders.length → (bnd h n).getD k 0 = isum (bondOf (k : Int)) (h.Lots.take n)
  | 0, _, k, hk => by
    show ((List.replicate h.Traders.length (0 : Int)).getD k 0) = 0
    rw [getD_eq (by rw [List.length_replicate]; exact hk), List.getElem_replicate]
  | n + 1, hn, k, hk => by
    have hx := H.lots _ (getD_mem (d := dSLot) (show n < h.Lots.length by omega))
    have hlen := bnd_len h n
    have ih := bnd_sum H n (by omega)
    have hr := isum_rng (f := bondOf ((h.Lots.getD n dSLot).Owner.toNat : Int)) (B := 5000000000000) (l := h.Lots.take n) fun y hy => bondOf_rng (H.lots y (List.mem_of_mem_take hy)) _
    have hnl := H.nl
    have hb := hx.bond
    have ho := hx.own
    rw [bnd_succ h (by omega), isum_take (d := dSLot) (by omega)]
    unfold addB
    by_cases e : k = (h.Lots.getD n dSLot).Owner.toNat
    · rw [e, getD_set (by omega), ih _ (by omega)]
      have : bondOf ((h.Lots.getD n dSLot).Owner.toNat : Int) (h.Lots.getD n dSLot) = (h.Lots.getD n dSLot).Bond := if_pos (by omega)
      rw [this]
      have h40 : (5000000000000 : Int) * ((h.Lots.take n).length : Int) ≤ 5000000000000 * 40 := Int.mul_le_mul_of_nonneg_left (by rw [List.length_take]; omega) (by omega)
      rw [w64_id (by omega) (by omega)]
    · rw [getD_set_ne e, ih k hk]
      have : bondOf (k : Int) (h.Lots.getD n dSLot) = 0 := if_neg (by omega)
      rw [this, Int.add_zero]
theorem houseB_of {h : SHouse} (H : HK h) : houseB h = true := by
  unfold houseB
  simp only [Bool.and_eq_true, decide_eq_true_eq, List.all_eq_true, List.mem_range]
  refine ⟨H.nl, H.nt, H.tk, fun k hk => ?_, fun k hk => ?_⟩
  · have hx := H.lots _ (getD_mem (d := dSLot) hk)
    have ho := hx.own
    have hnt := H.nt
    unfold lotB lotId ownB stateB
    rw [hx.right, hx.cond]
    simp only [Bool.and_eq_true, Bool.or_eq_true, decide_eq_true_eq, Bool.not_eq_true', decide_eq_false_iff_not, true_and, and_true]
    refine ⟨⟨hx.id, ?_⟩, ⟨ho.1, ?_⟩, hx.st⟩
    · by_cases h0 : k = 0
      · exact .inl h0
      · have := List.pairwise_iff_getElem.1 H.inc (k - 1) k (by omega) hk (by omega)
        rw [getD_eq (show k - 1 < h.Lots.length by omega), getD_eq hk]
        exact .inr (by omega)
    · rw [w64_id (by omega) (by omega)]
      omega
  · have ht := H.trd k hk
    have := bnd_sum H h.Lots.length (Nat.le_refl _) k hk
    rw [List.take_length] at this
    unfold trdB
    simp only [Bool.and_eq_true, decide_eq_true_eq]
    exact ⟨ht.m, ht.b, ht.u, ht.e.trans this.symm⟩
theorem lot_uniq {l : List SLot} (h : l.Pairwise fun a b => a.Id < b.Id) {a b : SLot} (ha : a ∈ l) (hb : b ∈ l) (e : a.Id = b.Id) : a = b := by
  obtain ⟨i, hi, rfl⟩ := List.getElem_of_mem ha
  obtain ⟨j, hj, rfl⟩ := List.getElem_of_mem hb
  have hp := List.pairwise_iff_getElem.1 h
  rcases Nat.lt_trichotomy i j with h1 | h1 | h1
  · have := hp i j hi hj h1
    omega
  · subst h1
    rfl
  · have := hp j i hj hi h1
    omega
/-! ### What a deed does -/
structure Step (h : SHouse) (d : SDeed) (r : SHouse × Int) : Prop where
  hk : HK r.1
  nt : r.1.Traders.length = h.Traders.length
  money : isum STrader.Money r.1.Traders + r.1.Taken = isum STrader.Money h.Traders + h.Taken
  tk : r.2 ≠ 0 → r.1.Taken = h.Taken
  many : isum SLot.Many r.1.Lots = isum SLot.Many h.Lots + (if r.2 = 0 ∧ d.Kind = 1 then d.Many else 0)
  gone : ∀ was ∈ h.Lots, ∀ is ∈ r.1.Lots, is.Id = was.Id → is.State = 5 → was.State = 5 ∨ was.State = 4 ∨ was.State = 3
theorem step_same {h : SHouse} (H : HK h) (d : SDeed) {c : Int} (hc : c ≠ 0) : Step h d (h, c) :=
  ⟨H, rfl, rfl, fun _ => rfl, by rw [if_neg (fun x => hc x.1), Int.add_zero], fun was hw is hi e h5 => by
    rw [lot_uniq H.inc hi hw e] at h5
    exact .inl h5⟩
/-- A lot and its owner are told anew. -/
theorem hk_set {h : SHouse} (H : HK h) {k : Nat} (hk : k < h.Lots.length) {x' : SLot} {t' : STrader} {tk : Int} (hid : x'.Id = (h.Lots.getD k dSLot).Id) (hown : x'.Owner = (h.Lots.getD k dSLot).Owner)
    (hx : LK h.Traders.length x') (hm : 0 ≤ t'.Money ∧ t'.Money ≤ 1000000000000000) (hb : t'.Bond = (h.Traders.getD (h.Lots.getD k dSLot).Owner.toNat dSTrader).Bond) (hu : 0 ≤ t'.Bound ∧ t'.Bound ≤ t'.Bond)
    (he : t'.Bound = (h.Traders.getD (h.Lots.getD k dSLot).Owner.toNat dSTrader).Bound - (h.Lots.getD k dSLot).Bond + x'.Bond) (htk : 0 ≤ tk ∧ tk ≤ 1000000000000000) :
    HK ⟨h.Lots.set k x', h.Traders.set (h.Lots.getD k dSLot).Owner.toNat t', tk⟩ := by
  have ho := (H.lots _ (getD_mem (d := dSLot) hk)).own
  have hol : (h.Lots.getD k dSLot).Owner.toNat < h.Traders.length := by omega
  refine ⟨by show (List.set _ _ _).length ≤ 40; rw [List.length_set]; exact H.nl, by show (List.set _ _ _).length ≤ 10; rw [List.length_set]; exact H.nt, htk, fun y hy => ?_, ?_, fun j hj => ?_⟩
  · show LK (List.set _ _ _).length y
    rw [List.length_set]
    rcases List.mem_or_eq_of_mem_set hy with h1 | h1
    · exact H.lots y h1
    · rw [h1]
      exact hx
  · show (h.Lots.set k x').Pairwise _
    rw [List.pairwise_iff_getElem]
    intro i j hi hj hij
    have hi2 : i < h.Lots.length := by rwa [List.length_set] at hi
    have hj2 : j < h.Lots.length := by rwa [List.length_set] at hj
    have h1 := ids_set hk hid i
    have h2 := ids_set hk hid j
    rw [getD_eq hi, getD_eq hi2] at h1
    rw [getD_eq hj, getD_eq hj2] at h2
    rw [h1, h2]
    exact List.pairwise_iff_getElem.1 H.inc i j hi2 hj2 hij
  · have hj2 : j < h.Traders.length := by
      have : j < (h.Traders.set (h.Lots.getD k dSLot).Owner.toNat t').length := hj
      rwa [List.length_set] at this
    have ht := H.trd j hj2
    show TK ((h.Traders.set (h.Lots.getD k dSLot).Owner.toNat t').getD j dSTrader) (isum (bondOf (j : Int)) (h.Lots.set k x'))
    rw [isum_set (d := dSLot) hk]
    by_cases e : j = (h.Lots.getD k dSLot).Owner.toNat
    · subst e
      rw [tget hol]
      have b1 : bondOf ((h.Lots.getD k dSLot).Owner.toNat : Int) (h.Lots.getD k dSLot) = (h.Lots.getD k dSLot).Bond := if_pos (by omega)
      have b2 : bondOf ((h.Lots.getD k dSLot).Owner.toNat : Int) x' = x'.Bond := if_pos (by omega)
      rw [b1, b2, ← ht.e]
      exact ⟨hm, by rw [hb]; exact ht.b, hu, he⟩
    · rw [getD_set_ne e]
      have b1 : bondOf (j : Int) (h.Lots.getD k dSLot) = 0 := if_neg (by omega)
      have b2 : bondOf (j : Int) x' = 0 := if_neg (by omega)
      rw [b1, b2, Int.sub_zero, Int.add_zero]
      exact ht
theorem step_set {h : SHouse} (H : HK h) {d : SDeed} (hd : d.Kind ≠ 1) {k : Nat} (hk : k < h.Lots.length) {x' : SLot} {t' : STrader} {tk : Int} (hid : x'.Id = (h.Lots.getD k dSLot).Id) (hown : x'.Owner = (h.Lots.getD k dSLot).Owner)
    (hx : LK h.Traders.length x') (hm : 0 ≤ t'.Money ∧ t'.Money ≤ 1000000000000000) (hb : t'.Bond = (h.Traders.getD (h.Lots.getD k dSLot).Owner.toNat dSTrader).Bond) (hu : 0 ≤ t'.Bound ∧ t'.Bound ≤ t'.Bond)
    (he : t'.Bound = (h.Traders.getD (h.Lots.getD k dSLot).Owner.toNat dSTrader).Bound - (h.Lots.getD k dSLot).Bond + x'.Bond) (htk : 0 ≤ tk ∧ tk ≤ 1000000000000000)
    (hmo : t'.Money + tk = (h.Traders.getD (h.Lots.getD k dSLot).Owner.toNat dSTrader).Money + h.Taken) (hma : x'.Many = (h.Lots.getD k dSLot).Many) (hg : x'.State = 5 → (h.Lots.getD k dSLot).State = 5 ∨ (h.Lots.getD k dSLot).State = 4 ∨ (h.Lots.getD k dSLot).State = 3) :
    Step h d (⟨h.Lots.set k x', h.Traders.set (h.Lots.getD k dSLot).Owner.toNat t', tk⟩, 0) := by
  have ho := (H.lots _ (getD_mem (d := dSLot) hk)).own
  have hol : (h.Lots.getD k dSLot).Owner.toNat < h.Traders.length := by omega
  refine ⟨hk_set H hk hid hown hx hm hb hu he htk, List.length_set .., ?_, fun h => absurd rfl h, ?_, fun was hw is hi e h5 => ?_⟩
  · show isum STrader.Money (h.Traders.set (h.Lots.getD k dSLot).Owner.toNat t') + tk = _
    rw [isum_set (d := dSTrader) hol]
    omega
  · rw [if_neg (fun x => hd x.2), Int.add_zero]
    show isum SLot.Many (h.Lots.set k x') = _
    rw [isum_set (d := dSLot) hk]
    omega
  · rcases List.mem_or_eq_of_mem_set hi with h1 | h1
    · rw [lot_uniq H.inc h1 hw e] at h5
      exact .inl h5
    · rw [h1] at h5 e
      have := lot_uniq H.inc (getD_mem (d := dSLot) hk) hw (hid.symm.trans e)
      rw [← this]
      exact hg h5
/-- A new lot. -/
theorem hk_put {h : SHouse} (H : HK h) {x : SLot} (hl : h.Lots.length ≤ 39) (hx : LK h.Traders.length x) (hb : x.Bond = 0) (hn : ∀ y ∈ h.Lots, y.Id ≠ x.Id) : HK ⟨putLot h.Lots x, h.Traders, h.Taken⟩ := by
  have hp := with_perm h.Lots x
  refine ⟨by show (putLot h.Lots x).length ≤ 40; rw [hp.length_eq, List.length_append, List.length_singleton]; omega, H.nt, H.tk, fun y hy => ?_, with_pairwise (fun i j hij hj => ?_) hn, fun k hk => ?_⟩
  · rcases List.mem_append.1 (hp.subset hy) with h1 | h1
    · exact H.lots y h1
    · rw [List.mem_singleton.1 h1]
      exact hx
  · have := List.pairwise_iff_getElem.1 H.inc i j (by omega) hj hij
    rwa [getD_eq (show i < h.Lots.length by omega), getD_eq hj]
  · show TK _ (isum (bondOf (k : Int)) (putLot h.Lots x))
    rw [isum_perm hp, isum_append]
    have : isum (bondOf (k : Int)) [x] = 0 := by
      show bondOf (k : Int) x + 0 = 0
      unfold bondOf
      split <;> omega
    rw [this, Int.add_zero]
    exact H.trd k hk
end Go.Sm
end

section
set_option linter.unusedSimpArgs false
set_option linter.deprecated false
set_option linter.unusedSectionVars false
set_option linter.unusedVariables false
set_option linter.unusedSimpArgs false
namespace Go.Sm
attribute [local irreducible] bd chk ix loopN
theorem LK.b0 {m : Nat} {x : SLot} (h : LK m x) (hs : x.State ≠ 3) : x.Bond = 0 := by
  have h1 := h.cond
  unfold condB at h1
  rwa [decide_eq_false hs, cond_false, decide_eq_true_eq] at h1
theorem LK.b3 {m : Nat} {x : SLot} (h : LK m x) (hs : x.State = 3) : x.Bond = dutyI x := by
  have h1 := h.cond
  unfold condB at h1
  rwa [decide_eq_true hs, cond_true, decide_eq_true_eq] at h1
theorem lk_of {m : Nat} {x : SLot} (hx : LK m x) {s b : Int} (hs : 1 ≤ s ∧ s ≤ 5) (hb : if s = 3 then b = dutyI x else b = 0) : LK m ⟨x.Id, x.Owner, x.Many, x.Value, x.Rate, s, b⟩ := by
  refine ⟨hx.right, hx.id, hx.own, hs, ?_⟩
  show (bif decide (s = 3) then decide (b = dutyI x) else decide (b = 0)) = true
  by_cases e : s = 3
  · rw [if_pos e] at hb
    rw [decide_eq_true e, cond_true, decide_eq_true hb]
  · rw [if_neg e] at hb
    rw [decide_eq_false e, cond_false, decide_eq_true hb]
theorem isum_mem {α : Type} {f : α → Int} {d : α} : ∀ {l : List α} {k : Nat}, k < l.length → (∀ x ∈ l, 0 ≤ f x) → f (l.getD k d) ≤ isum f l
  | [], _, h, _ => absurd h (Nat.not_lt_zero _)
  | x :: l, 0, _, h => by
    have h2 : 0 ≤ isum f l := by
      have : ∀ l : List α, (∀ x ∈ l, 0 ≤ f x) → 0 ≤ isum f l := fun l => by
        induction l with
        | nil => intro _; exact Int.le_refl _
        | cons y l ih =>
          intro hl
          have a1 := hl y (List.mem_cons_self ..)
          have a2 := ih fun z hz => hl z (List.mem_cons_of_mem _ hz)
          show 0 ≤ f y + isum f l
          omega
      exact this l fun z hz => h z (List.mem_cons_of_mem _ hz)
    show f x ≤ f x + isum f l
    omega
  | x :: l, k + 1, hk, h => by
    have h1 := isum_mem (f := f) (d := d) (l := l) (k := k) (Nat.lt_of_succ_lt_succ hk) fun z hz => h z (List.mem_cons_of_mem _ hz)
    have h2 := h x (List.mem_cons_self ..)
    show f (l.getD k d) ≤ f x + isum f l
    omega
theorem bond_le {h : SHouse} (H : HK h) {k : Nat} (hk : k < h.Lots.length) : (h.Lots.getD k dSLot).Bond ≤ (h.Traders.getD (h.Lots.getD k dSLot).Owner.toNat dSTrader).Bound := by
  have ho := (H.lots _ (getD_mem (d := dSLot) hk)).own
  have ht := H.trd (h.Lots.getD k dSLot).Owner.toNat (by omega)
  have := isum_mem (f := bondOf ((h.Lots.getD k dSLot).Owner.toNat : Int)) (d := dSLot) hk fun y hy => (bondOf_rng (H.lots y hy) _).1
  have b1 : bondOf ((h.Lots.getD k dSLot).Owner.toNat : Int) (h.Lots.getD k dSLot) = (h.Lots.getD k dSLot).Bond := if_pos (by omega)
  rw [b1, ← ht.e] at this
  exact this
theorem hasB_no {l : List SLot} {id : Int} (h : hasB l id = false) : l.length ≠ 40 ∧ ∀ y ∈ l, y.Id ≠ id := by
  unfold hasB at h
  simp only [Bool.or_eq_false_iff, decide_eq_false_iff_not] at h
  exact ⟨by omega, find_neg h.1⟩
theorem core_step {h : SHouse} (H : HK h) {d : SDeed} {k : Nat} (hk : k < h.Lots.length) (h18 : 2 ≤ d.Kind ∧ d.Kind ≤ 8) (hst : (h.Lots.getD k dSLot).State = fromI d.Kind)
    (h8 : d.Kind = 8 → 1 ≤ d.Many ∧ (1 ≤ d.New ∧ d.New ≤ 1000000) ∧ d.Many < (h.Lots.getD k dSLot).Many) : Step h d (coreD h d k (h.Lots.getD k dSLot) (h.Traders.getD (h.Lots.getD k dSLot).Owner.toNat dSTrader)) := by
  have hx := H.lots _ (getD_mem (d := dSLot) hk)
  have ho := hx.own
  have hol : (h.Lots.getD k dSLot).Owner.toNat < h.Traders.length := by omega
  have ht := H.trd (h.Lots.getD k dSLot).Owner.toNat hol
  have hdu := duty_rng hx.right
  have htm := ht.m
  have htb := ht.b
  have htu := ht.u
  have hbd := hx.bond
  have hble := bond_le H hk
  have htk := H.tk
  have hd1 : d.Kind ≠ 1 := by omega
  have tid := tset (l := h.Traders) (d := dSTrader) hol
  unfold coreD
  by_cases e2 : d.Kind = 2
  · have hs : (h.Lots.getD k dSLot).State = 1 := hst.trans (by rw [e2]; rfl)
    rw [decide_eq_true e2, cond_true]
    have := step_set H hd1 hk (x' := ⟨(h.Lots.getD k dSLot).Id, (h.Lots.getD k dSLot).Owner, (h.Lots.getD k dSLot).Many, (h.Lots.getD k dSLot).Value, (h.Lots.getD k dSLot).Rate, 2, (h.Lots.getD k dSLot).Bond⟩) (t' := h.Traders.getD (h.Lots.getD k dSLot).Owner.toNat dSTrader) (tk := h.Taken) rfl rfl
      (lk_of hx (by omega) (by rw [if_neg (by omega)]; exact hx.b0 (by omega))) htm rfl htu (by dsimp only; omega) htk rfl rfl (fun h5 => absurd (show (2 : Int) = 5 from h5) (by decide))
    rwa [tid] at this
  rw [decide_eq_false e2, cond_false]
  by_cases e3 : d.Kind = 3
  · have hs : (h.Lots.getD k dSLot).State = 2 := hst.trans (by rw [e3]; rfl)
    rw [decide_eq_true e3, cond_true]
    have := step_set H hd1 hk (x' := ⟨(h.Lots.getD k dSLot).Id, (h.Lots.getD k dSLot).Owner, (h.Lots.getD k dSLot).Many, (h.Lots.getD k dSLot).Value, (h.Lots.getD k dSLot).Rate, 1, (h.Lots.getD k dSLot).Bond⟩) (t' := h.Traders.getD (h.Lots.getD k dSLot).Owner.toNat dSTrader) (tk := h.Taken) rfl rfl
      (lk_of hx (by omega) (by rw [if_neg (by omega)]; exact hx.b0 (by omega))) htm rfl htu (by dsimp only; omega) htk rfl rfl (fun h5 => absurd (show (1 : Int) = 5 from h5) (by decide))
    rwa [tid] at this
  rw [decide_eq_false e3, cond_false]
  by_cases e4 : d.Kind = 4
  · have hs : (h.Lots.getD k dSLot).State = 1 := hst.trans (by rw [e4]; rfl)
    rw [decide_eq_true e4, cond_true, bif_dec, bif_dec]
    split
    · exact step_same H d (by decide)
    · rename_i c1
      rw [w64_id (x := h.Taken + dutyI (h.Lots.getD k dSLot)) (by omega) (by omega), w64_id (x := (h.Traders.getD (h.Lots.getD k dSLot).Owner.toNat dSTrader).Money - dutyI (h.Lots.getD k dSLot)) (by omega) (by omega)]
      split
      · exact step_same H d (by decide)
      · rename_i c2
        have hb0 := hx.b0 (by omega)
        exact step_set H hd1 hk rfl rfl (lk_of hx (by omega) (by rw [if_neg (by omega)]; exact hb0)) (by dsimp only; omega) rfl htu (by dsimp only; omega) (by omega) (by dsimp only; omega) rfl (fun h5 => absurd (show (4 : Int) = 5 from h5) (by decide))
  rw [decide_eq_false e4, cond_false]
  by_cases e5 : d.Kind = 5
  · have hs : (h.Lots.getD k dSLot).State = 1 := hst.trans (by rw [e5]; rfl)
    rw [decide_eq_true e5, cond_true, bif_dec, w64_id (x := (h.Traders.getD (h.Lots.getD k dSLot).Owner.toNat dSTrader).Bond - _) (by omega) (by omega), w64_id (x := (h.Traders.getD (h.Lots.getD k dSLot).Owner.toNat dSTrader).Bound + _) (by omega) (by omega)]
    split
    · exact step_same H d (by decide)
    · rename_i c1
      have hb0 := hx.b0 (by omega)
      exact step_set H hd1 hk rfl rfl (lk_of hx (by omega) (by rw [if_pos rfl])) htm rfl (by dsimp only; omega) (by dsimp only; omega) htk rfl rfl (fun h5 => absurd (show (3 : Int) = 5 from h5) (by decide))
  rw [decide_eq_false e5, cond_false]
  by_cases e6 : d.Kind = 6
  · have hs : (h.Lots.getD k dSLot).State = 3 := hst.trans (by rw [e6]; rfl)
    rw [decide_eq_true e6, cond_true, w64_id (x := (h.Traders.getD (h.Lots.getD k dSLot).Owner.toNat dSTrader).Bound - _) (by omega) (by omega)]
    exact step_set H hd1 hk rfl rfl (lk_of hx (by omega) (by rw [if_neg (by omega)])) htm rfl (by dsimp only; omega) (by dsimp only; omega) htk rfl rfl (fun _ => .inr (.inr hs))
  rw [decide_eq_false e6, cond_false]
  by_cases e7 : d.Kind = 7
  · have hs : (h.Lots.getD k dSLot).State = 4 := hst.trans (by rw [e7]; rfl)
    rw [decide_eq_true e7, cond_true]
    have := step_set H hd1 hk (x' := ⟨(h.Lots.getD k dSLot).Id, (h.Lots.getD k dSLot).Owner, (h.Lots.getD k dSLot).Many, (h.Lots.getD k dSLot).Value, (h.Lots.getD k dSLot).Rate, 5, (h.Lots.getD k dSLot).Bond⟩) (t' := h.Traders.getD (h.Lots.getD k dSLot).Owner.toNat dSTrader) (tk := h.Taken) rfl rfl
      (lk_of hx (by omega) (by rw [if_neg (by omega)]; exact hx.b0 (by omega))) htm rfl htu (by dsimp only; omega) htk rfl rfl (fun _ => .inr (.inl hs))
    rwa [tid] at this
  rw [decide_eq_false e7, cond_false]
  have e8 : d.Kind = 8 := by omega
  have hs : (h.Lots.getD k dSLot).State = 1 := hst.trans (by rw [e8]; rfl)
  obtain ⟨g1, g2, g3⟩ := h8 e8
  have hb0 := hx.b0 (by omega)
  obtain ⟨r1, r2, r3⟩ := right_rng hx.right
  cases hh : hasB h.Lots d.New with
  | true => exact step_same H d (by decide)
  | false =>
    rw [cond_false]
    obtain ⟨n1, n2⟩ := hasB_no hh
    have hnl := H.nl
    rw [w64_id (x := (h.Lots.getD k dSLot).Many - d.Many) (by omega) (by omega)]
    have hx1 : LK h.Traders.length ⟨(h.Lots.getD k dSLot).Id, (h.Lots.getD k dSLot).Owner, (h.Lots.getD k dSLot).Many - d.Many, (h.Lots.getD k dSLot).Value, (h.Lots.getD k dSLot).Rate, (h.Lots.getD k dSLot).State, (h.Lots.getD k dSLot).Bond⟩ := by
      refine ⟨?_, hx.id, hx.own, hx.st, ?_⟩
      · unfold rightB
        simp only [Bool.and_eq_true, decide_eq_true_eq]
        omega
      · unfold condB
        dsimp only
        rw [decide_eq_false (by omega), cond_false, decide_eq_true hb0]
    have hx2 : LK h.Traders.length ⟨d.New, (h.Lots.getD k dSLot).Owner, d.Many, (h.Lots.getD k dSLot).Value, (h.Lots.getD k dSLot).Rate, (h.Lots.getD k dSLot).State, (h.Lots.getD k dSLot).Bond⟩ := by
      refine ⟨?_, g2, hx.own, hx.st, ?_⟩
      · unfold rightB
        simp only [Bool.and_eq_true, decide_eq_true_eq]
        omega
      · unfold condB
        dsimp only
        rw [decide_eq_false (by omega), cond_false, decide_eq_true hb0]
    have H1 := hk_set H hk (x' := ⟨(h.Lots.getD k dSLot).Id, (h.Lots.getD k dSLot).Owner, (h.Lots.getD k dSLot).Many - d.Many, (h.Lots.getD k dSLot).Value, (h.Lots.getD k dSLot).Rate, (h.Lots.getD k dSLot).State, (h.Lots.getD k dSLot).Bond⟩) (t' := h.Traders.getD (h.Lots.getD k dSLot).Owner.toNat dSTrader) (tk := h.Taken) rfl rfl hx1 htm rfl htu (by dsimp only; omega) htk
    rw [tid] at H1
    have hne : ∀ y ∈ h.Lots.set k ⟨(h.Lots.getD k dSLot).Id, (h.Lots.getD k dSLot).Owner, (h.Lots.getD k dSLot).Many - d.Many, (h.Lots.getD k dSLot).Value, (h.Lots.getD k dSLot).Rate, (h.Lots.getD k dSLot).State, (h.Lots.getD k dSLot).Bond⟩, y.Id ≠ d.New := fun y hy => by
      rcases List.mem_or_eq_of_mem_set hy with h1 | h1
      · exact n2 y h1
      · rw [h1]
        exact n2 (h.Lots.getD k dSLot) (getD_mem hk)
    have H2 := hk_put H1 (x := ⟨d.New, (h.Lots.getD k dSLot).Owner, d.Many, (h.Lots.getD k dSLot).Value, (h.Lots.getD k dSLot).Rate, (h.Lots.getD k dSLot).State, (h.Lots.getD k dSLot).Bond⟩) (by show (List.set _ _ _).length ≤ 39; rw [List.length_set]; omega) hx2 hb0 hne
    refine ⟨H2, rfl, rfl, fun h => absurd rfl h, ?_, fun was hw is hi e h5 => ?_⟩
    · rw [if_neg (fun x => hd1 x.2), Int.add_zero]
      show isum SLot.Many (putLot _ _) = _
      rw [isum_perm (with_perm _ _), isum_append, isum_set (d := dSLot) hk]
      show isum SLot.Many h.Lots - (h.Lots.getD k dSLot).Many + ((h.Lots.getD k dSLot).Many - d.Many) + (d.Many + 0) = _
      omega
    · rcases List.mem_append.1 ((with_perm _ _).subset hi) with h1 | h1
      · rcases List.mem_or_eq_of_mem_set h1 with h2 | h2
        · rw [lot_uniq H.inc h2 hw e] at h5
          exact .inl h5
        · rw [h2] at h5
          have h5 : (h.Lots.getD k dSLot).State = 5 := h5
          omega
      · rw [List.mem_singleton.1 h1] at h5
        have h5 : (h.Lots.getD k dSLot).State = 5 := h5
        omega
theorem bad_no {h : SHouse} {d : SDeed} (hb : badB h d = false) : (1 ≤ d.Kind ∧ d.Kind ≤ 8) ∧ (1 ≤ d.Id ∧ d.Id ≤ 1000000) ∧ (d.Kind = 1 → rightD d = true ∧ 0 ≤ d.Owner ∧ d.Owner ≤ w64 ((h.Traders.length : Int) - 1)) ∧ (d.Kind = 8 → 1 ≤ d.Many ∧ 1 ≤ d.New ∧ d.New ≤ 1000000) := by
  unfold badB at hb
  simp only [Bool.or_eq_false_iff, Bool.not_eq_false', decide_eq_true_eq] at hb
  obtain ⟨_, h2, h3, h4⟩ := hb
  refine ⟨h2, h3, fun e => ?_, fun e => ?_⟩
  · rw [decide_eq_true e, cond_true] at h4
    simp only [Bool.or_eq_false_iff, Bool.not_eq_false', decide_eq_true_eq] at h4
    exact ⟨h4.1, h4.2⟩
  · rw [decide_eq_false (show ¬ d.Kind = 1 by omega), cond_false, decide_eq_true e, cond_true] at h4
    simp only [Bool.or_eq_false_iff, Bool.not_eq_false', decide_eq_true_eq, decide_eq_false_iff_not] at h4
    omega
theorem doD_step {h : SHouse} (H : HK h) (d : SDeed) : Step h d (doD h d) := by
  unfold doD
  cases hb : badB h d with
  | true => exact step_same H d (by decide)
  | false =>
    rw [cond_false]
    obtain ⟨b1, b2, b3, b4⟩ := bad_no hb
    unfold goD
    by_cases e1 : d.Kind = 1
    · rw [decide_eq_true e1, cond_true]
      obtain ⟨c1, c2⟩ := b3 e1
      cases hh : hasB h.Lots d.Id with
      | true => exact step_same H d (by decide)
      | false =>
        rw [cond_false]
        obtain ⟨n1, n2⟩ := hasB_no hh
        have hnl := H.nl
        have hnt := H.nt
        rw [w64_id (by omega) (by omega)] at c2
        have H2 := hk_put H (x := ⟨d.Id, d.Owner, d.Many, d.Value, d.Rate, 1, 0⟩) (by omega) ⟨c1, b2, by dsimp only; omega, by dsimp only; omega, rfl⟩ rfl n2
        refine ⟨H2, rfl, rfl, fun h => absurd rfl h, ?_, fun was hw is hi e h5 => ?_⟩
        · rw [if_pos ⟨rfl, e1⟩]
          show isum SLot.Many (putLot _ _) = _
          rw [isum_perm (with_perm _ _), isum_append]
          show _ + (d.Many + 0) = _
          omega
        · rcases List.mem_append.1 ((with_perm _ _).subset hi) with h1 | h1
          · rw [lot_uniq H.inc h1 hw e] at h5
            exact .inl h5
          · rw [List.mem_singleton.1 h1] at h5
            exact absurd (show (1 : Int) = 5 from h5) (by decide)
    · rw [decide_eq_false e1, cond_false]
      by_cases hf : findB h.Lots d.Id < 0
      · rw [decide_eq_true hf]
        exact step_same H d (by decide)
      · rw [decide_eq_false hf, cond_false]
        obtain ⟨k, hk1, hk2⟩ := find_nat hf
        rw [hk1, Int.toNat_natCast]
        unfold atD
        by_cases hs : (h.Lots.getD k dSLot).State = fromI d.Kind
        · rw [decide_eq_true hs, Bool.not_true, cond_false]
          by_cases h8 : d.Kind = 8 ∧ d.Many ≥ (h.Lots.getD k dSLot).Many
          · rw [decide_eq_true h8.1, decide_eq_true h8.2]
            exact step_same H d (by decide)
          · have : (decide (d.Kind = 8) && decide (d.Many ≥ (h.Lots.getD k dSLot).Many)) = false := by
              rw [Bool.and_eq_false_iff, decide_eq_false_iff_not, decide_eq_false_iff_not]
              by_cases q : d.Kind = 8
              · exact .inr fun r => h8 ⟨q, r⟩
              · exact .inl q
            rw [this, cond_false]
            refine core_step H hk2 (by omega) hs fun e8 => ?_
            obtain ⟨q1, q2⟩ := b4 e8
            exact ⟨q1, q2, by have := fun r => h8 ⟨e8, r⟩; omega⟩
        · rw [decide_eq_false hs]
          exact step_same H d (by decide)
end Go.Sm
end

section
set_option linter.unusedSimpArgs false
set_option linter.deprecated false
set_option linter.unusedSectionVars false
set_option linter.unusedVariables false
set_option linter.unusedSimpArgs false
namespace Go.Sm
attribute [local irreducible] bd chk ix loopN
/-! ### Draws -/
structure CurOk (c : Sl1Cur) : Prop where
  i : 0 ≤ c.i ∧ c.i ≤ (c.b.length : Int)
  len : c.b.length ≤ 1048576
theorem and255 (v : Int) : 0 ≤ w64 (((BitVec.ofInt 64 v &&& BitVec.ofInt 64 (255 : Int)).toNat : Nat) : Int) ∧ w64 (((BitVec.ofInt 64 v &&& BitVec.ofInt 64 (255 : Int)).toNat : Nat) : Int) ≤ 255 := by
  have h : (BitVec.ofInt 64 v &&& BitVec.ofInt 64 (255 : Int)).toNat ≤ 255 := by
    rw [BitVec.toNat_and]
    exact Nat.and_le_right
  rw [w64_id (by omega) (by omega)]
  omega
theorem byte_ok {n : Nat} {c : Sl1Cur} (h : CurOk c) : ∃ v c', spec_l1Byte n c = some (v, c') ∧ (0 ≤ v ∧ v ≤ 255) ∧ CurOk c' := by
  have h1 := h.i
  have h2 := h.len
  unfold spec_l1Byte
  simp only [bd_eq]
  by_cases hc : c.i < (c.b.length : Int)
  · rw [decide_eq_true hc, cond_true, ix_of h1.1 hc]
    refine ⟨_, _, rfl, and255 _, ⟨?_, h2⟩⟩
    show 0 ≤ w64 (c.i + 1) ∧ w64 (c.i + 1) ≤ (c.b.length : Int)
    rw [w64_id (by omega) (by omega)]
    omega
  · rw [decide_eq_false hc, cond_false]
    exact ⟨_, _, rfl, and255 _, ⟨h1, h2⟩⟩
theorem below_ok {n : Nat} {c : Sl1Cur} (h : CurOk c) {m : Int} (hm : 1 ≤ m ∧ m ≤ 256) : ∃ v c', spec_l1Below n c m = some (v, c') ∧ (0 ≤ v ∧ v < m) ∧ CurOk c' := by
  obtain ⟨v, c', h1, h2, h3⟩ := byte_ok (n := n) h
  unfold spec_l1Below
  rw [decide_eq_false (show ¬ m ≤ 0 by omega), cond_false, decide_eq_true (show m ≤ 256 by omega), cond_true, h1, Option.bind_some, decide_eq_false (show ¬ m = 0 by omega), cond_false]
  exact ⟨_, _, rfl, ⟨Int.tmod_nonneg _ h2.1, Int.tmod_lt_of_pos _ (by omega)⟩, h3⟩
theorem new_ok {n : Nat} (code : List Int) (hc : code.length ≤ 1048576) (hn : 1000000000 < n) : ∃ c, spec_l1New n code = some c ∧ CurOk c := by
  have hw : w64 ((59059 : Int) + (code.length : Int)) = 59059 + (code.length : Int) := w64_id (by omega) (by omega)
  unfold spec_l1New
  rw [bd_eq]
  have key : ∀ m k h fu, k + m = code.length → m < fu → ∃ c, loopN (fun (x : Int × Int) J' => spec_l1New_L3 n (fun h16 => some ((⟨code, (0 : Int), h16⟩ : Sl1Cur))) (fun h17 i18 => J' (h17, i18)) code x.1 x.2) fu (h, (k : Int)) = some c ∧ CurOk c := by
    intro m
    induction m with
    | zero =>
      intro k h fu hk hfu
      obtain ⟨f, rfl⟩ : ∃ f, fu = f + 1 := ⟨fu - 1, by omega⟩
      rw [loopN_succ]
      refine ⟨⟨code, 0, h⟩, ?_, ⟨by show (0 : Int) ≤ 0 ∧ (0 : Int) ≤ (code.length : Int); omega, hc⟩⟩
      show spec_l1New_L3 n _ _ code h (k : Int) = _
      unfold spec_l1New_L3
      rw [decide_eq_false (by omega), cond_false]
    | succ m ih =>
      intro k h fu hk hfu
      obtain ⟨f, rfl⟩ : ∃ f, fu = f + 1 := ⟨fu - 1, by omega⟩
      rw [loopN_succ]
      have hstep : ∀ J : Int → Int → Option Sl1Cur, ∃ h', spec_l1New_L3 n (fun h16 => some ((⟨code, (0 : Int), h16⟩ : Sl1Cur))) J code h (k : Int) = J h' ((k + 1 : Nat) : Int) ∨ spec_l1New_L3 n (fun h16 => some ((⟨code, (0 : Int), h16⟩ : Sl1Cur))) J code h (k : Int) = some ⟨code, 0, h⟩ := by
        intro J
        unfold spec_l1New_L3 spec_l1New_k0
        rw [decide_eq_true (show (k : Int) < (code.length : Int) by omega), cond_true]
        cases decide ((k : Int) < 4000) with
        | true =>
          rw [cond_true, ix_nat (by omega), bd_eq, bd_eq, w64_succ (show k < 9223372036854775807 by omega)]
          exact ⟨_, .inl rfl⟩
        | false => exact ⟨0, .inr rfl⟩
      obtain ⟨h', e | e⟩ := hstep (fun h17 i18 => loopN (fun (x : Int × Int) J' => spec_l1New_L3 n (fun h16 => some ((⟨code, (0 : Int), h16⟩ : Sl1Cur))) (fun h17 i18 => J' (h17, i18)) code x.1 x.2) f (h17, i18))
      · obtain ⟨c, g1, g2⟩ := ih (k + 1) h' f (by omega) (by omega)
        exact ⟨c, e.trans g1, g2⟩
      · exact ⟨⟨code, 0, h⟩, e, ⟨by show (0 : Int) ≤ 0 ∧ (0 : Int) ≤ (code.length : Int); omega, hc⟩⟩
  exact key code.length 0 _ n (by omega) (by omega)
theorem below_big {n : Nat} {c : Sl1Cur} (h : CurOk c) {m : Int} (hm : 257 ≤ m ∧ m ≤ 1000000) : ∃ v c', spec_l1Below n c m = some (v, c') ∧ (0 ≤ v ∧ v < m) ∧ CurOk c' := by
  obtain ⟨v1, c1, e1, a1, q1⟩ := byte_ok (n := n) h
  obtain ⟨v2, c2, e2, a2, q2⟩ := byte_ok (n := n) q1
  obtain ⟨v3, c3, e3, a3, q3⟩ := byte_ok (n := n) q2
  obtain ⟨v4, c4, e4, a4, q4⟩ := byte_ok (n := n) q3
  unfold spec_l1Below spec_l1Below_k0
  rw [decide_eq_false (show ¬ m ≤ 0 by omega), cond_false, decide_eq_false (show ¬ m ≤ 256 by omega), cond_false]
  simp only [e1, e2, e3, e4, Option.bind_some, bd_eq]
  rw [decide_eq_false (show ¬ m = 0 by omega), cond_false, w64_id (x := v1 * 16777216) (by omega) (by omega), w64_id (x := v2 * 65536) (by omega) (by omega), w64_id (x := v3 * 256) (by omega) (by omega), w64_id (x := v1 * 16777216 + v2 * 65536) (by omega) (by omega), w64_id (x := v1 * 16777216 + v2 * 65536 + v3 * 256) (by omega) (by omega), w64_id (x := v1 * 16777216 + v2 * 65536 + v3 * 256 + v4) (by omega) (by omega)]
  exact ⟨_, _, rfl, ⟨Int.tmod_nonneg _ (by omega), Int.tmod_lt_of_pos _ (by omega)⟩, q4⟩
theorem pickInt_ok {n : Nat} {c : Sl1Cur} (h : CurOk c) {l : List Int} (hl : 1 ≤ l.length ∧ l.length ≤ 256) : ∃ v c', spec_l1PickInt n c l = some (v, c') ∧ CurOk c' := by
  obtain ⟨v, c', h1, h2, h3⟩ := below_ok (n := n) h (m := (l.length : Int)) (by omega)
  unfold spec_l1PickInt
  rw [h1, Option.bind_some, ix_of h2.1 h2.2]
  exact ⟨_, _, rfl, h3⟩
theorem deed_ok {n : Nat} {c : Sl1Cur} (hc : CurOk c) : ∃ d c', spec_l16DrawDeed n c = some (d, c') ∧ CurOk c' := by
  obtain ⟨v1, c1, e1, a1, q1⟩ := below_ok (n := n) hc (m := 8) (by omega)
  obtain ⟨v2, c2, e2, a2, q2⟩ := below_ok (n := n) q1 (m := 8) (by omega)
  obtain ⟨v3, c3, e3, a3, q3⟩ := below_ok (n := n) q2 (m := 3) (by omega)
  obtain ⟨v4, c4, e4, a4, q4⟩ := below_ok (n := n) q3 (m := 20) (by omega)
  obtain ⟨v5, c5, e5, a5, q5⟩ := below_ok (n := n) q4 (m := 50) (by omega)
  obtain ⟨v6, c6, e6, q6⟩ := pickInt_ok (n := n) q5 (l := [(0 : Int), (100 : Int), (250 : Int), (1000 : Int), (33 : Int)]) (by simp)
  obtain ⟨v7, c7, e7, a7, q7⟩ := below_ok (n := n) q6 (m := 12) (by omega)
  obtain ⟨v8, c8, e8, a8, q8⟩ := below_ok (n := n) q7 (m := 50) (by omega)
  obtain ⟨x1, d1, f1, r1⟩ := pickInt_ok (n := n) q8 (l := [(0 : Int), (9 : Int)]) (by simp)
  obtain ⟨x2, d2, f2, r2⟩ := pickInt_ok (n := n) q8 (l := [(0 : Int), (1000000 : Int), (1000001 : Int)]) (by simp)
  obtain ⟨x3, d3, f3, r3⟩ := pickInt_ok (n := n) q8 (l := [(-1 : Int), (10 : Int)]) (by simp)
  obtain ⟨x4, d4, f4, r4⟩ := pickInt_ok (n := n) q8 (l := [(-1 : Int), (1000000 : Int), (1000001 : Int)]) (by simp)
  obtain ⟨x5, d5, f5, r5⟩ := pickInt_ok (n := n) q8 (l := [(-1 : Int), (5000 : Int), (5001 : Int)]) (by simp)
  unfold spec_l16DrawDeed
  simp only [e1, e2, e3, e4, e5, e6, e7, e8, f1, f2, f3, f4, f5, Option.bind_some]
  cases decide (v8 = 0) with
  | true => exact ⟨_, _, rfl, r1⟩
  | false =>
    cases decide (v8 = 1) with
    | true => exact ⟨_, _, rfl, r2⟩
    | false =>
      cases decide (v8 = 2) with
      | true => exact ⟨_, _, rfl, r3⟩
      | false =>
        cases decide (v8 = 3) with
        | true => exact ⟨_, _, rfl, r2⟩
        | false =>
          cases decide (v8 = 4) with
          | true => exact ⟨_, _, rfl, r4⟩
          | false =>
            cases decide (v8 = 5) with
            | true => exact ⟨_, _, rfl, r5⟩
            | false =>
              cases decide (v8 = 6) with
              | true => exact ⟨_, _, rfl, r2⟩
              | false => exact ⟨_, _, rfl, q8⟩
theorem hk_init {T : List STrader} {tk : Int} (hl : T.length ≤ 10) (ht : 0 ≤ tk ∧ tk ≤ 1000) (hT : ∀ t ∈ T, (0 ≤ t.Money ∧ t.Money ≤ 1000) ∧ (0 ≤ t.Bond ∧ t.Bond ≤ 1000) ∧ t.Bound = 0) : HK ⟨[], T, tk⟩ := by
  refine ⟨Nat.zero_le _, hl, by dsimp only; omega, (fun x hx => by cases hx), List.Pairwise.nil, fun k hk => ?_⟩
  obtain ⟨h1, h2, h3⟩ := hT _ (getD_mem (d := dSTrader) hk)
  exact ⟨by dsimp only; omega, by dsimp only; omega, by dsimp only; omega, h3⟩
theorem draw_house {n : Nat} {c : Sl1Cur} (hc : CurOk c) (hn : 1000000000 < n) : ∃ h c', spec_l16Draw n c = some (h, c') ∧ (HK h ∧ 1 ≤ h.Traders.length) ∧ CurOk c' := by
  obtain ⟨v1, c1, e1, a1, q1⟩ := below_ok (n := n) hc (m := 100) (by omega)
  obtain ⟨v2, c2, e2, a2, q2⟩ := below_ok (n := n) q1 (m := 3) (by omega)
  unfold spec_l16Draw
  rw [e1, Option.bind_some]
  dsimp only
  rw [e2, Option.bind_some, w64_id (x := 1 + v2) (by omega) (by omega)]
  refine loopN_ind (fun x => x.1.toNat) (fun x => ∃ k : Nat, x.1 = (k : Int) ∧ CurOk x.2.1 ∧ (1 ≤ x.2.2.length + k ∧ x.2.2.length + k ≤ 3) ∧ ∀ t ∈ x.2.2, (0 ≤ t.Money ∧ t.Money ≤ 1000) ∧ (0 ≤ t.Bond ∧ t.Bond ≤ 1000) ∧ t.Bound = 0)
    (fun x r => ∃ h c', r = some (h, c') ∧ (HK h ∧ 1 ≤ h.Traders.length) ∧ CurOk c') ?_ n _ ⟨(1 + v2).toNat, by dsimp only; omega, q2, by dsimp only; rw [List.length_nil]; omega, fun t ht => by cases ht⟩ (by dsimp only; omega)
  rintro ⟨_, p, T⟩ J ⟨k, rfl, hp, hl, hT⟩ ih
  dsimp only at hp hl hT
  dsimp only
  unfold spec_l16Draw_L3
  cases k with
  | zero =>
    rw [decide_eq_false (by omega), cond_false]
    obtain ⟨v3, c3, e3, a3, q3⟩ := below_ok (n := n) hp (m := 14) (by omega)
    dsimp only
    rw [e3, Option.bind_some]
    refine loopN_ind (fun x => x.1.toNat) (fun x => ∃ m : Nat, x.1 = (m : Int) ∧ m ≤ 14 ∧ CurOk x.2.1 ∧ HK x.2.2 ∧ 1 ≤ x.2.2.Traders.length) (fun x r => ∃ h c', r = some (h, c') ∧ (HK h ∧ 1 ≤ h.Traders.length) ∧ CurOk c') ?_ n _
      ⟨v3.toNat, by dsimp only; omega, by omega, q3, hk_init (by omega) (by omega) hT, by dsimp only; omega⟩ (by dsimp only; omega)
    rintro ⟨_, p2, h⟩ J2 ⟨m, rfl, hm, hp2, hh, hh1⟩ ih2
    dsimp only at hp2 hh hh1
    dsimp only
    unfold spec_l16Draw_L7
    cases m with
    | zero =>
      rw [decide_eq_false (by omega), cond_false]
      exact ⟨_, _, rfl, ⟨hh, hh1⟩, hp2⟩
    | succ m =>
      rw [decide_eq_true (by omega), cond_true]
      unfold spec_l16Draw_k0
      obtain ⟨d, d1, f1, r1⟩ := deed_ok (n := n) hp2
      have hnl := hh.nl
      have hnt := hh.nt
      rw [f1, Option.bind_some, show w64 (((m + 1 : Nat) : Int) - 1) = (m : Int) from by rw [w64_id (by omega) (by omega)]; omega]
      dsimp only
      cases decide (((m + 1 : Nat) : Int) > 6) with
      | true =>
        rw [cond_true]
        obtain ⟨v4, c4, e4, a4, q4⟩ := below_ok (n := n) r1 (m := (h.Traders.length : Int)) (by omega)
        rw [e4, Option.bind_some, do_spec h _ (by omega) (by omega) hn, Option.bind_some]
        have hs := doD_step hh ⟨1, d.Id, v4, d.Many, d.Value, d.Rate, d.New⟩
        exact ih2 _ ⟨m, rfl, by omega, q4, hs.hk, by have := hs.nt; dsimp only; omega⟩ (by dsimp only; omega)
      | false =>
        rw [cond_false, do_spec h _ (by omega) (by omega) hn, Option.bind_some]
        have hs := doD_step hh d
        exact ih2 _ ⟨m, rfl, by omega, r1, hs.hk, by have := hs.nt; dsimp only; omega⟩ (by dsimp only; omega)
  | succ k =>
    rw [decide_eq_true (by omega), cond_true]
    obtain ⟨v3, c3, e3, a3, q3⟩ := below_big (n := n) hp (m := 300) (by omega)
    obtain ⟨v4, c4, e4, a4, q4⟩ := below_big (n := n) q3 (m := 300) (by omega)
    simp only [e3, e4, Option.bind_some, bd_eq]
    rw [chk_dec (by rw [List.length_append, List.length_singleton]; omega), show w64 (((k + 1 : Nat) : Int) - 1) = (k : Int) from by rw [w64_id (by omega) (by omega)]; omega]
    refine ih _ ⟨k, rfl, q4, by dsimp only; rw [List.length_append, List.length_singleton]; omega, fun t ht => ?_⟩ (by dsimp only; omega)
    rcases List.mem_append.1 ht with h1 | h1
    · exact hT t h1
    · rw [List.mem_singleton.1 h1]
      exact ⟨by dsimp only; omega, by dsimp only; omega, rfl⟩
theorem draw_all {n : Nat} (code : List Int) (hc : code.length ≤ 1048576) (hn : 1000000000 < n) : ∃ h l, spec_DrawHouse n code = some (h, l) ∧ HK h ∧ l.length ≤ 30 := by
  obtain ⟨c0, e0, q0⟩ := new_ok (n := n) code hc hn
  obtain ⟨h, c1, e1, ⟨hh, _⟩, q1⟩ := draw_house (n := n) q0 hn
  obtain ⟨v2, c2, e2, a2, q2⟩ := below_ok (n := n) q1 (m := 30) (by omega)
  unfold spec_DrawHouse
  rw [e0, Option.bind_some, e1, Option.bind_some]
  dsimp only
  rw [e2, Option.bind_some]
  refine loopN_ind (fun (x : Int × Sl1Cur × List SDeed) => x.1.toNat) (fun x => ∃ k : Nat, x.1 = (k : Int) ∧ CurOk x.2.1 ∧ x.2.2.length + k ≤ 30) (fun (x : Int × Sl1Cur × List SDeed) (r : Option (SHouse × List SDeed)) => ∃ h l, r = some (h, l) ∧ HK h ∧ l.length ≤ 30) ?_ n _
    ⟨v2.toNat, by dsimp only; omega, q2, by dsimp only; rw [List.length_nil]; omega⟩ (by dsimp only; omega)
  rintro ⟨_, p, l⟩ J ⟨k, rfl, hp, hl⟩ ih
  dsimp only at hp hl
  dsimp only
  unfold spec_DrawHouse_L5
  cases k with
  | zero =>
    rw [decide_eq_false (by omega), cond_false]
    exact ⟨_, _, rfl, hh, by omega⟩
  | succ k =>
    rw [decide_eq_true (by omega), cond_true]
    obtain ⟨d, d1, f1, r1⟩ := deed_ok (n := n) hp
    rw [f1, Option.bind_some, chk_dec (by rw [List.length_append, List.length_singleton]; omega), show w64 (((k + 1 : Nat) : Int) - 1) = (k : Int) from by rw [w64_id (by omega) (by omega)]; omega]
    exact ih _ ⟨k, rfl, r1, by dsimp only; rw [List.length_append, List.length_singleton]; omega⟩ (by dsimp only; omega)
end Go.Sm
end

section
set_option linter.unusedSimpArgs false
set_option linter.deprecated false
set_option linter.unusedSectionVars false
set_option linter.unusedVariables false
set_option linter.unusedSimpArgs false
namespace Go.Sm
attribute [local irreducible] bd chk ix loopN
theorem lost_loop {R : Type} {n : Nat} (K : Int → Option R) (x1 : List SDeed) (x2 x3 x4 : Int) (x5 : List SLot) (hh : SHouse) {h : SHouse} {T' : List STrader} (ht : h.Traders.length ≤ 10) (hl : T'.length = h.Traders.length)
    (hr : ∀ t ∈ h.Traders, 0 ≤ t.Money ∧ t.Money ≤ 1000000000000000) (hr' : ∀ t ∈ T', 0 ≤ t.Money ∧ t.Money ≤ 1000000000000000) {v : Int} (hv : -1000000000000000 ≤ v ∧ v ≤ 1000000000000000) (hn : 1000000000 < n) :
    loopN (fun (x : Int × Int) J' => laws_FnCustoms_L13 n K (fun a b => J' (a, b)) x1 x2 x3 x.1 x.2 hh h x4 x5 T') n (v, (0 : Int)) = K (v + isum STrader.Money T' - isum STrader.Money h.Traders) := by
  refine loopN_ind (fun (x : Int × Int) => h.Traders.length - x.2.toNat) (fun x => ∃ k : Nat, k ≤ h.Traders.length ∧ x = (v + isum STrader.Money (T'.take k) - isum STrader.Money (h.Traders.take k), (k : Int))) (fun x r => r = K (v + isum STrader.Money T' - isum STrader.Money h.Traders)) ?_ n _
    ⟨0, by omega, by rw [List.take_zero, List.take_zero]; show (v, _) = (v + 0 - 0, _); rw [Int.add_zero, Int.sub_zero]; rfl⟩ (by dsimp only; omega)
  rintro _ J ⟨k, hk, rfl⟩ ih
  dsimp only at ih ⊢
  unfold laws_FnCustoms_L13
  by_cases hlt : k < h.Traders.length
  · have s1 := isum_rng (f := STrader.Money) (B := 1000000000000000) (l := T'.take k) fun t ht => hr' t (List.mem_of_mem_take ht)
    have s2 := isum_rng (f := STrader.Money) (B := 1000000000000000) (l := h.Traders.take k) fun t ht => hr t (List.mem_of_mem_take ht)
    have l1 : (1000000000000000 : Int) * ((T'.take k).length : Int) ≤ 1000000000000000 * 10 := Int.mul_le_mul_of_nonneg_left (by rw [List.length_take]; omega) (by omega)
    have l2 : (1000000000000000 : Int) * ((h.Traders.take k).length : Int) ≤ 1000000000000000 * 10 := Int.mul_le_mul_of_nonneg_left (by rw [List.length_take]; omega) (by omega)
    have m1 := hr' _ (getD_mem (d := dSTrader) (show k < T'.length by omega))
    have m2 := hr _ (getD_mem (d := dSTrader) hlt)
    have t1 := isum_take (f := STrader.Money) (d := dSTrader) (show k < T'.length by omega)
    have t2 := isum_take (f := STrader.Money) (d := dSTrader) hlt
    rw [decide_eq_true (show (k : Int) < (h.Traders.length : Int) by omega), cond_true]
    unfold laws_FnCustoms_k0
    rw [ix_nat (by omega), Int.toNat_natCast, chk_dec (by omega), bd_eq, ix_nat hlt, bd_eq, w64_id (x := v + isum STrader.Money (T'.take k) - isum STrader.Money (h.Traders.take k) + _) (by omega) (by omega), w64_id (x := v + isum STrader.Money (T'.take k) - isum STrader.Money (h.Traders.take k) + _ - _) (by omega) (by omega), w64_succ (by omega)]
    refine ih _ ⟨k + 1, hlt, ?_⟩ (by dsimp only; omega)
    rw [t1, t2]
    exact congrArg (·, ((k + 1 : Nat) : Int)) (by omega)
  · have : k = h.Traders.length := by omega
    subst this
    rw [decide_eq_false (Int.lt_irrefl _), cond_false, List.take_length]
    have : T'.take h.Traders.length = T' := by rw [← hl, List.take_length]
    rw [this]
theorem many_loop {R : Type} {n : Nat} (K : Int → Option R) (x1 : List SDeed) (x2 x3 x4 x6 : Int) (hh h : SHouse) (x7 : List STrader) {l : List SLot} (hl : l.length ≤ 40) (hr : ∀ y ∈ l, 0 ≤ y.Many ∧ y.Many ≤ 1000000) (hn : 1000000000 < n) :
    loopN (fun (x : Int × Int) J' => laws_FnCustoms_L20 n K (fun a b => J' (a, b)) x1 x2 x3 x.1 x4 x.2 hh h x6 l x7) n ((0 : Int), (0 : Int)) = K (isum SLot.Many l) := by
  refine loopN_ind (fun (x : Int × Int) => l.length - x.2.toNat) (fun x => ∃ k : Nat, k ≤ l.length ∧ x = (isum SLot.Many (l.take k), (k : Int))) (fun x r => r = K (isum SLot.Many l)) ?_ n _ ⟨0, by omega, rfl⟩ (by dsimp only; omega)
  rintro _ J ⟨k, hk, rfl⟩ ih
  dsimp only at ih ⊢
  unfold laws_FnCustoms_L20
  by_cases hlt : k < l.length
  · have s1 := isum_rng (f := SLot.Many) (B := 1000000) (l := l.take k) fun t ht => hr t (List.mem_of_mem_take ht)
    have l1 : (1000000 : Int) * ((l.take k).length : Int) ≤ 1000000 * 40 := Int.mul_le_mul_of_nonneg_left (by rw [List.length_take]; omega) (by omega)
    have m1 := hr _ (getD_mem (d := dSLot) hlt)
    have t1 := isum_take (f := SLot.Many) (d := dSLot) hlt
    rw [decide_eq_true (show (k : Int) < (l.length : Int) by omega), cond_true, ix_nat hlt, Int.toNat_natCast, chk_dec hlt, bd_eq, w64_id (by omega) (by omega), w64_succ (by omega), ← t1]
    exact ih _ ⟨k + 1, hlt, rfl⟩ (by dsimp only; omega)
  · have : k = l.length := by omega
    subst this
    rw [decide_eq_false (Int.lt_irrefl _), cond_false, List.take_length]
theorem gone_loop {R : Type} {n : Nat} (Z : Option R) (kr : Bool → Option R) (x1 : List SDeed) (x2 x3 x4 x5 x6 x7 : Int) (hh h : SHouse) (x8 : List STrader) (was : SLot) {l : List SLot} (hl : l.length ≤ 40) (hg : ∀ y ∈ l, y.Id = was.Id → y.State = 5 → was.State = 5 ∨ was.State = 4 ∨ was.State = 3) (hn : 1000000000 < n) :
    loopN (fun (x : Int) J' => laws_FnCustoms_L29 n Z kr J' x1 x2 x3 x4 x5 x6 x hh h x7 l x8 was) n (0 : Int) = Z := by
  refine loopN_ind (fun (x : Int) => l.length - x.toNat) (fun x => ∃ k : Nat, k ≤ l.length ∧ x = (k : Int)) (fun x r => r = Z) ?_ n _ ⟨0, by omega, rfl⟩ (by simp; omega)
  rintro _ J ⟨k, hk, rfl⟩ ih
  unfold laws_FnCustoms_L29
  by_cases hlt : k < l.length
  · have hJ : J ((k + 1 : Nat) : Int) = Z := ih _ ⟨k + 1, hlt, rfl⟩ (by simp; omega)
    have hy := hg _ (getD_mem (d := dSLot) hlt)
    rw [decide_eq_true (show (k : Int) < (l.length : Int) by omega), cond_true]
    unfold laws_FnCustoms_k1
    rw [ix_nat hlt, Int.toNat_natCast, chk_dec hlt, bd_eq, w64_succ (by omega), hJ]
    by_cases a1 : (l.getD k dSLot).Id = was.Id
    · by_cases a2 : (l.getD k dSLot).State = 5
      · rw [decide_eq_true a1, decide_eq_true a2, cond_true, cond_true]
        rcases hy a1 a2 with q | q | q
        · rw [decide_eq_true q]; rfl
        · rw [q]; rfl
        · rw [q]; rfl
      · rw [decide_eq_true a1, decide_eq_false a2]; rfl
    · rw [decide_eq_false a1]; rfl
  · have : k = l.length := by omega
    subst this
    rw [decide_eq_false (Int.lt_irrefl _), cond_false]
theorem before_loop {R : Type} {n : Nat} (K : Int → Option R) (kr : Bool → Option R) (x1 : List SDeed) (x2 x3 x4 x6 : Int) (hh : SHouse) (x7 : List STrader) {h : SHouse} {l : List SLot} (hl0 : h.Lots.length ≤ 40) (hl : l.length ≤ 40) (hr : ∀ y ∈ h.Lots, 0 ≤ y.Many ∧ y.Many ≤ 1000000)
    (hg : ∀ was ∈ h.Lots, ∀ y ∈ l, y.Id = was.Id → y.State = 5 → was.State = 5 ∨ was.State = 4 ∨ was.State = 3) (hn : 1000000000 < n) :
    loopN (fun (x : Int × Int) J' => laws_FnCustoms_L24 n K kr (fun a b => J' (a, b)) x1 x2 x3 x4 x.1 x.2 hh h x6 l x7) n ((0 : Int), (0 : Int)) = K (isum SLot.Many h.Lots) := by
  refine loopN_ind (fun (x : Int × Int) => h.Lots.length - x.2.toNat) (fun x => ∃ k : Nat, k ≤ h.Lots.length ∧ x = (isum SLot.Many (h.Lots.take k), (k : Int))) (fun x r => r = K (isum SLot.Many h.Lots)) ?_ n _ ⟨0, by omega, rfl⟩ (by dsimp only; omega)
  rintro _ J ⟨k, hk, rfl⟩ ih
  dsimp only at ih ⊢
  unfold laws_FnCustoms_L24
  by_cases hlt : k < h.Lots.length
  · have s1 := isum_rng (f := SLot.Many) (B := 1000000) (l := h.Lots.take k) fun t ht => hr t (List.mem_of_mem_take ht)
    have l1 : (1000000 : Int) * ((h.Lots.take k).length : Int) ≤ 1000000 * 40 := Int.mul_le_mul_of_nonneg_left (by rw [List.length_take]; omega) (by omega)
    have m1 := hr _ (getD_mem (d := dSLot) hlt)
    have t1 := isum_take (f := SLot.Many) (d := dSLot) hlt
    rw [decide_eq_true (show (k : Int) < (h.Lots.length : Int) by omega), cond_true]
    unfold laws_FnCustoms_k2
    rw [ix_nat hlt, Int.toNat_natCast, bd_eq, bd_eq, ix_nat hlt, bd_eq, w64_id (x := isum SLot.Many (h.Lots.take k) + _) (by omega) (by omega), w64_succ (by omega), gone_loop _ _ _ _ _ _ _ _ _ _ _ _ _ hl (hg _ (getD_mem hlt)) hn, ← t1]
    exact ih _ ⟨k + 1, hlt, rfl⟩ (by dsimp only; omega)
  · have : k = h.Lots.length := by omega
    subst this
    rw [decide_eq_false (Int.lt_irrefl _), cond_false, List.take_length]
theorem HK.money {h : SHouse} (H : HK h) : ∀ t ∈ h.Traders, 0 ≤ t.Money ∧ t.Money ≤ 1000000000000000 := fun t ht => by
  obtain ⟨k, hk, rfl⟩ := List.getElem_of_mem ht
  have := (H.trd k hk).m
  rwa [getD_eq hk] at this
theorem HK.many {h : SHouse} (H : HK h) : ∀ y ∈ h.Lots, 0 ≤ y.Many ∧ y.Many ≤ 1000000 := fun y hy => by
  have := (right_rng (H.lots y hy).right).1
  omega
theorem runD_hk {h : SHouse} (H : HK h) (l : List SDeed) : ∀ k, k ≤ l.length → HK (runD h (l.take k)).1
  | 0, _ => H
  | k + 1, hk => by
    rw [runD_succ h l (by omega)]
    exact (doD_step (runD_hk H l k (by omega)) _).hk
theorem deed_step {R : Type} {n : Nat} (kx : SHouse → Option R) (kr : Bool → Option R) (J : Int → SHouse → Option R) {l : List SDeed} {i : Nat} (hi : i < l.length) (hl : l.length ≤ 30) (h0 : SHouse) {h : SHouse} (H : HK h) (hn : 1000000000 < n) :
    laws_FnCustoms_k6 n kx kr J l (i : Int) h0 h = J ((i + 1 : Nat) : Int) (doD h (l.getD i dSDeed)).1 := by
  have hs := doD_step H (l.getD i dSDeed)
  have nl := H.nl
  have nt := H.nt
  unfold laws_FnCustoms_k6
  rw [ix_nat hi, bd_eq, Int.toNat_natCast, do_impl h _ (by omega) (by omega) hn, Option.bind_some]
  generalize hR : doD h (l.getD i dSDeed) = R at *
  obtain ⟨r, c⟩ := R
  have H2 : HK r := hs.hk
  have e1 : r.Traders.length = h.Traders.length := hs.nt
  have e2 : isum STrader.Money r.Traders + r.Taken = isum STrader.Money h.Traders + h.Taken := hs.money
  have e3 : c ≠ 0 → r.Taken = h.Taken := hs.tk
  have e4 : isum SLot.Many r.Lots = isum SLot.Many h.Lots + (if c = 0 ∧ (l.getD i dSDeed).Kind = 1 then (l.getD i dSDeed).Many else 0) := hs.many
  have e5 := hs.gone
  have nl2 := H2.nl
  have k1 := H.tk
  have k2 := H2.tk
  dsimp only
  rw [house_impl r hn, Option.bind_some, houseB_of H2, Bool.not_true, cond_false, decide_eq_true (show (r.Traders.length : Int) = (h.Traders.length : Int) by omega), Bool.not_true, cond_false]
  have hk4 : laws_FnCustoms_k4 n kx kr J l (i : Int) c h0 h r.Taken r.Lots r.Traders = J ((i + 1 : Nat) : Int) r := by
    unfold laws_FnCustoms_k4
    rw [many_loop _ _ _ _ _ _ _ _ _ nl2 H2.many hn, before_loop _ _ _ _ _ _ _ _ _ nl nl2 H.many e5 hn]
    have s1 := isum_rng (f := SLot.Many) (B := 1000000) H.many
    have s2 := isum_rng (f := SLot.Many) (B := 1000000) H2.many
    have l1 : (1000000 : Int) * (h.Lots.length : Int) ≤ 1000000 * 40 := Int.mul_le_mul_of_nonneg_left (by omega) (by omega)
    have l2 : (1000000 : Int) * (r.Lots.length : Int) ≤ 1000000 * 40 := Int.mul_le_mul_of_nonneg_left (by omega) (by omega)
    by_cases hc : c = 0
    · rw [decide_eq_true hc, cond_true, ix_nat hi, bd_eq, Int.toNat_natCast]
      unfold laws_FnCustoms_k3
      by_cases hk : (l.getD i dSDeed).Kind = 1
      · rw [if_pos ⟨hc, hk⟩] at e4
        rw [decide_eq_true hk, cond_true, ix_nat hi, bd_eq, bd_eq, Int.toNat_natCast, w64_id (x := isum SLot.Many h.Lots + _) (by omega) (by omega), decide_eq_true e4, Bool.not_true, cond_false, w64_succ (by omega)]
      · rw [if_neg (fun q => hk q.2), Int.add_zero] at e4
        rw [decide_eq_false hk, cond_false, decide_eq_true e4, Bool.not_true, cond_false, w64_succ (by omega)]
    · rw [if_neg (fun q => hc q.1), Int.add_zero] at e4
      rw [decide_eq_false hc, cond_false, decide_eq_true e4, Bool.not_true, cond_false, w64_succ (by omega)]
  unfold laws_FnCustoms_k5
  rw [bd_eq, w64_id (x := r.Taken - h.Taken) (by omega) (by omega), lost_loop _ _ _ _ _ _ _ nt e1 H.money H2.money (by omega) hn, decide_eq_true (show r.Taken - h.Taken + isum STrader.Money r.Traders - isum STrader.Money h.Traders = 0 by omega), Bool.not_true, cond_false, hk4]
  by_cases hc : c = 0
  · rw [decide_eq_true hc]
    rfl
  · rw [decide_eq_false hc, Bool.not_false, cond_true, decide_eq_true (e3 hc)]
    rfl
theorem laws_FnCustoms_true (code0 : List Int) (h0 : (code0.length ≤ 9223372036854775807 ∧ ∀ y ∈ code0, rng 0 255 y)) : ∃ n, laws_FnCustoms n code0 = some true := by
  refine ⟨1000000001, ?_⟩
  generalize hN : (1000000001 : Nat) = n
  have hn : 1000000000 < n := by omega
  unfold laws_FnCustoms laws_big
  rw [Option.bind_some]
  by_cases hb : (code0.length : Int) > 1048576
  · rw [decide_eq_true hb]
    rfl
  rw [decide_eq_false hb, cond_false]
  unfold laws_FnCustoms_k7
  obtain ⟨h, l, e0, hh, hl⟩ := draw_all (n := n) code0 (by omega) hn
  rw [e0, Option.bind_some]
  dsimp only
  refine loopN_ind (fun (x : Int × SHouse) => l.length - x.1.toNat) (fun x => ∃ k : Nat, k ≤ l.length ∧ x = ((k : Int), (runD h (l.take k)).1)) (fun x r => r = some true) ?_ n _ ⟨0, by omega, rfl⟩ (by dsimp only; omega)
  rintro _ J ⟨k, hk, rfl⟩ ih
  have hk1 := runD_hk hh l k hk
  dsimp only at ih ⊢
  unfold laws_FnCustoms_L6
  by_cases hlt : k < l.length
  · rw [decide_eq_true (show (k : Int) < (l.length : Int) by omega), cond_true, deed_step _ _ _ hlt hl h hk1 hn]
    exact ih _ ⟨k + 1, hlt, by rw [runD_succ h l hlt]⟩ (by dsimp only; omega)
  · have : k = l.length := by omega
    subst this
    have nl := hh.nl
    have nt := hh.nt
    have hr : runsD h l = runD h l := if_pos (by omega)
    have hc := (runD_len h l l.length (Nat.le_refl _)).2.2
    rw [List.take_length] at hc ⊢
    have hd : impl_Duty6 n 3 500 100 = some (150, true) := by
      have q : rightB ⟨0, 0, 3, 500, 100, 0, 0⟩ = true := by decide
      have := right_impl n ⟨0, 0, 3, 500, 100, 0, 0⟩
      unfold impl_Duty6
      dsimp only at this
      rw [this, q, Option.bind_some]
      simp only [bd_eq, Bool.not_true, cond_false]
      decide +kernel
    rw [decide_eq_false (Int.lt_irrefl _), cond_false]
    dsimp only
    rw [runs_impl h l (by omega) (by omega) (by omega) hn, Option.bind_some, hr, hd, Option.bind_some, hc]
    simp only [decide_true, cond_true]
end Go.Sm
end
