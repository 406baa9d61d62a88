import Derived.Test.YtefibegfcfbcjaaEngE
import Derived.Test.YtefibegfcfbcjaaEngA
/- The functions as plain functions over data, and that the law answers true for all arguments. RunDeeds: a run of deeds by the written-out way and by the built one comes to the same, for every house and all deeds. -/
set_option linter.unusedSimpArgs false
set_option linter.deprecated false
set_option linter.unusedSectionVars false
set_option linter.unusedVariables false
noncomputable section
namespace Go.Sm
structure SLot where
  Id : Int
  Owner : Int
  Many : Int
  Value : Int
  Rate : Int
  State : Int
  Bond : Int
structure STrader where
  Money : Int
  Bond : Int
  Bound : Int
structure SHouse where
  Lots : List SLot
  Traders : List STrader
  Taken : Int
structure SDeed where
  Kind : Int
  Id : Int
  Owner : Int
  Many : Int
  Value : Int
  Rate : Int
  New : Int
def dSLot : SLot := ⟨(0 : Int), (0 : Int), (0 : Int), (0 : Int), (0 : Int), (0 : Int), (0 : Int)⟩
def dSTrader : STrader := ⟨(0 : Int), (0 : Int), (0 : Int)⟩
def dSHouse : SHouse := ⟨[], [], (0 : Int)⟩
def dSDeed : SDeed := ⟨(0 : Int), (0 : Int), (0 : Int), (0 : Int), (0 : Int), (0 : Int), (0 : Int)⟩
def laws_szLotS (n : Nat) (a0 : List SLot) (left1 : Int) : Option Int :=
  (bd (w64 (left1 - (a0.length : Int))) fun (v1 : Int) => (bif (decide (v1 < (0 : Int))) then some ((-1 : Int)) else some (v1)))
def laws_szTraderS (n : Nat) (a0 : List STrader) (left1 : Int) : Option Int :=
  (bd (w64 (left1 - (a0.length : Int))) fun (v1 : Int) => (bif (decide (v1 < (0 : Int))) then some ((-1 : Int)) else some (v1)))
def laws_szHouse (n : Nat) (a0 : SHouse) (left1 : Int) : Option Int :=
  (laws_szLotS n a0.Lots left1).bind fun r1 => (bif (decide (r1 < (0 : Int))) then some ((-1 : Int)) else (laws_szTraderS n a0.Traders r1).bind fun r5 => (bif (decide (r5 < (0 : Int))) then some ((-1 : Int)) else some (r5)))
def laws_szDeedS (n : Nat) (a0 : List SDeed) (left1 : Int) : Option Int :=
  (bd (w64 (left1 - (a0.length : Int))) fun (v1 : Int) => (bif (decide (v1 < (0 : Int))) then some ((-1 : Int)) else some (v1)))
def laws_toLot (n : Nat) (a0 : SLot) : Option SLot :=
  some (a0)
def laws_toLotS_L3 {R : Type} (n : Nat) (kx0 : List SLot → Option R) (J : Int → List SLot → Option R) (a1 : List SLot) (i2 : Int) (out3 : List SLot) : Option R :=
  (bif (decide (i2 < (a1.length : Int))) then ix i2 a1.length ((bd (a1.getD i2.toNat dSLot) fun (e8 : SLot) => (laws_toLot n e8).bind fun r9 => ix i2 out3.length (chk (decide (i2.toNat < out3.length)) (J (w64 (i2 + (1 : Int))) (out3.set i2.toNat r9))))) else kx0 out3)
def laws_toLotS (n : Nat) (a0 : List SLot) : Option (List SLot) :=
  chk (decide ((0 : Int) ≤ (a0.length : Int))) (chk (decide ((a0.length : Int) ≤ (a0.length : Int))) (chk (decide ((a0.length : Int) ≤ 9223372036854775807 ∧ (a0.length : Int) * (56 : Int) ≤ 281474976710656)) (loopN (fun (x : Int × List SLot) J' => laws_toLotS_L3 n (fun out10 => some (out10)) (fun i11 out12 => J' (i11, out12)) a0 x.1 x.2) n ((0 : Int), (List.replicate (a0.length : Int).toNat dSLot)))))
def laws_toTrader (n : Nat) (a0 : STrader) : Option STrader :=
  some (a0)
def laws_toTraderS_L3 {R : Type} (n : Nat) (kx0 : List STrader → Option R) (J : Int → List STrader → Option R) (a1 : List STrader) (i2 : Int) (out3 : List STrader) : Option R :=
  (bif (decide (i2 < (a1.length : Int))) then ix i2 a1.length ((bd (a1.getD i2.toNat dSTrader) fun (e8 : STrader) => (laws_toTrader n e8).bind fun r9 => ix i2 out3.length (chk (decide (i2.toNat < out3.length)) (J (w64 (i2 + (1 : Int))) (out3.set i2.toNat r9))))) else kx0 out3)
def laws_toTraderS (n : Nat) (a0 : List STrader) : Option (List STrader) :=
  chk (decide ((0 : Int) ≤ (a0.length : Int))) (chk (decide ((a0.length : Int) ≤ (a0.length : Int))) (chk (decide ((a0.length : Int) ≤ 9223372036854775807 ∧ (a0.length : Int) * (24 : Int) ≤ 281474976710656)) (loopN (fun (x : Int × List STrader) J' => laws_toTraderS_L3 n (fun out10 => some (out10)) (fun i11 out12 => J' (i11, out12)) a0 x.1 x.2) n ((0 : Int), (List.replicate (a0.length : Int).toNat dSTrader)))))
def laws_toHouse (n : Nat) (a0 : SHouse) : Option SHouse :=
  (laws_toLotS n a0.Lots).bind fun r1 => (laws_toTraderS n a0.Traders).bind fun r2 => some ((⟨r1, r2, a0.Taken⟩ : SHouse))
def laws_toDeed (n : Nat) (a0 : SDeed) : Option SDeed :=
  some (a0)
def laws_toDeedS_L3 {R : Type} (n : Nat) (kx0 : List SDeed → Option R) (J : Int → List SDeed → Option R) (a1 : List SDeed) (i2 : Int) (out3 : List SDeed) : Option R :=
  (bif (decide (i2 < (a1.length : Int))) then ix i2 a1.length ((bd (a1.getD i2.toNat dSDeed) fun (e8 : SDeed) => (laws_toDeed n e8).bind fun r9 => ix i2 out3.length (chk (decide (i2.toNat < out3.length)) (J (w64 (i2 + (1 : Int))) (out3.set i2.toNat r9))))) else kx0 out3)
def laws_toDeedS (n : Nat) (a0 : List SDeed) : Option (List SDeed) :=
  chk (decide ((0 : Int) ≤ (a0.length : Int))) (chk (decide ((a0.length : Int) ≤ (a0.length : Int))) (chk (decide ((a0.length : Int) ≤ 9223372036854775807 ∧ (a0.length : Int) * (56 : Int) ≤ 281474976710656)) (loopN (fun (x : Int × List SDeed) J' => laws_toDeedS_L3 n (fun out10 => some (out10)) (fun i11 out12 => J' (i11, out12)) a0 x.1 x.2) n ((0 : Int), (List.replicate (a0.length : Int).toNat dSDeed)))))
def spec_l16Copy (n : Nat) (h0 : SHouse) : Option SHouse :=
  chk (decide (h0.Lots.length * 56 ≤ 140737488355328)) (chk (decide (h0.Traders.length * 24 ≤ 140737488355328)) (some (h0)))
def spec_l1In (n : Nat) (x0 : Int) (a1 : Int) (b2 : Int) : Option Bool :=
  (bif (decide (x0 ≥ a1)) then some ((decide (x0 ≤ b2))) else some (false))
def spec_Duty6 (n : Nat) (many0 : Int) (value1 : Int) (rate2 : Int) : Option (Int × Bool) :=
  (spec_l1In n many0 (1 : Int) (1000000 : Int)).bind fun r1 => (bif (!r1) then some ((0 : Int), false) else (spec_l1In n value1 (0 : Int) (1000000 : Int)).bind fun r2 => (bif (!r2) then some ((0 : Int), false) else (spec_l1In n rate2 (0 : Int) (5000 : Int)).bind fun r3 => (bif (!r3) then some ((0 : Int), false) else (bd (w64 ((w64 (many0 * value1)) * rate2)) fun (v9 : Int) => (bd (w64 (Int.tdiv v9 (1000 : Int))) fun (v10 : Int) => some (v10, true))))))
def spec_HouseOk_k0 {R : Type} (n : Nat) (kx0 : List Int → Option R) (kxr : Bool → Option R) (J : Int → List Int → Option R) (i43 : Int) (h4 : SHouse) (bound44 : List Int) (x45 : SLot) : Option R :=
  ix x45.Owner bound44.length (chk (decide (x45.Owner.toNat < bound44.length)) ((bd (w64 ((bound44.getD x45.Owner.toNat (0 : Int)) + (0 : Int))) fun (v46 : Int) => ix x45.Owner bound44.length (chk (decide (x45.Owner.toNat < bound44.length)) ((bd (bound44.set x45.Owner.toNat v46) fun (l47 : List Int) => J (w64 (i43 + (1 : Int))) l47))))))
def spec_HouseOk_k1 {R : Type} (n : Nat) (kx0 : List Int → Option R) (kxr : Bool → Option R) (J : Int → List Int → Option R) (i57 : Int) (duty58 : Int) (h4 : SHouse) (bound59 : List Int) (x60 : SLot) : Option R :=
  ix x60.Owner bound59.length (chk (decide (x60.Owner.toNat < bound59.length)) ((bd (w64 ((bound59.getD x60.Owner.toNat (0 : Int)) + duty58)) fun (v61 : Int) => ix x60.Owner bound59.length (chk (decide (x60.Owner.toNat < bound59.length)) ((bd (bound59.set x60.Owner.toNat v61) fun (l62 : List Int) => J (w64 (i57 + (1 : Int))) l62))))))
def spec_HouseOk_k2 {R : Type} (n : Nat) (kx0 : List Int → Option R) (kxr : Bool → Option R) (J : Int → List Int → Option R) (i31 : Int) (duty32 : Int) (t33 : Bool) (h4 : SHouse) (bound34 : List Int) (x35 : SLot) : Option R :=
  (bif t33 then kxr false else (bif (!(decide (x35.State = (3 : Int)))) then (bif (!(decide (x35.Bond = (0 : Int)))) then kxr false else spec_HouseOk_k0 n kx0 kxr J i31 h4 bound34 x35) else (bif (!(decide (x35.Bond = duty32))) then kxr false else spec_HouseOk_k1 n kx0 kxr J i31 duty32 h4 bound34 x35)))
def spec_HouseOk_k3 {R : Type} (n : Nat) (kx0 : List Int → Option R) (kxr : Bool → Option R) (J : Int → List Int → Option R) (i6 : Int) (h4 : SHouse) (bound7 : List Int) : Option R :=
  ix i6 h4.Lots.length ((bd (h4.Lots.getD i6.toNat dSLot) fun (e8 : SLot) => (spec_Duty6 n e8.Many e8.Value e8.Rate).bind fun r9 => (bif (!r9.2) then kxr false else (spec_l1In n e8.Id (1 : Int) (1000000 : Int)).bind fun r14 => (bif (!r14) then kxr false else (bif (decide (i6 > (0 : Int))) then ix (w64 (i6 - (1 : Int))) h4.Lots.length ((bd (h4.Lots.getD ((w64 (i6 - (1 : Int))).toNat) dSLot) fun (e19 : SLot) => (bif (decide (e19.Id ≥ e8.Id)) then kxr false else (bd (w64 ((h4.Traders.length : Int) - (1 : Int))) fun (v24 : Int) => (spec_l1In n e8.Owner (0 : Int) v24).bind fun r25 => (bif (!r25) then kxr false else (spec_l1In n e8.State (1 : Int) (5 : Int)).bind fun r30 => spec_HouseOk_k2 n kx0 kxr J i6 r9.1 (!r30) h4 bound7 e8))))) else (bd (w64 ((h4.Traders.length : Int) - (1 : Int))) fun (v83 : Int) => (spec_l1In n e8.Owner (0 : Int) v83).bind fun r84 => (bif (!r84) then kxr false else (spec_l1In n e8.State (1 : Int) (5 : Int)).bind fun r89 => spec_HouseOk_k2 n kx0 kxr J i6 r9.1 (!r89) h4 bound7 e8)))))))
def spec_HouseOk_L5 {R : Type} (n : Nat) (kx0 : List Int → Option R) (kxr : Bool → Option R) (J : Int → List Int → Option R) (i3 : Int) (h4 : SHouse) (bound5 : List Int) : Option R :=
  (bif (decide (i3 < (h4.Lots.length : Int))) then spec_HouseOk_k3 n kx0 kxr J i3 h4 bound5 else kx0 bound5)
def spec_HouseOk_k4 {R : Type} (n : Nat) (kx2 : Option R) (kxr : Bool → Option R) (J : Int → Option R) (i99 : Int) (h97 : SHouse) (bound98 : List Int) : Option R :=
  ix i99 h97.Traders.length ((bd (h97.Traders.getD i99.toNat dSTrader) fun (e100 : STrader) => (spec_l1In n e100.Money (0 : Int) (1000000000000000 : Int)).bind fun r101 => (bif (!r101) then kxr false else (spec_l1In n e100.Bond (0 : Int) (1000000000000000 : Int)).bind fun r103 => (bif (!r103) then kxr false else (spec_l1In n e100.Bound (0 : Int) e100.Bond).bind fun r105 => (bif (!r105) then kxr false else ix i99 bound98.length (chk (decide (i99.toNat < bound98.length)) ((bif (!(decide (e100.Bound = (bound98.getD i99.toNat (0 : Int))))) then kxr false else J (w64 (i99 + (1 : Int)))))))))))
def spec_HouseOk_L17 {R : Type} (n : Nat) (kx2 : Option R) (kxr : Bool → Option R) (J : Int → Option R) (i96 : Int) (h97 : SHouse) (bound98 : List Int) : Option R :=
  (bif (decide (i96 < (h97.Traders.length : Int))) then spec_HouseOk_k4 n kx2 kxr J i96 h97 bound98 else kx2)
def spec_HouseOk_k5 (n : Nat)  (h0 : SHouse) : Option Bool :=
  chk (decide ((0 : Int) ≤ (h0.Traders.length : Int))) (chk (decide ((h0.Traders.length : Int) ≤ (h0.Traders.length : Int))) (chk (decide ((h0.Traders.length : Int) ≤ 9223372036854775807 ∧ (h0.Traders.length : Int) * (8 : Int) ≤ 281474976710656)) (loopN (fun (x : Int × List Int) J' => spec_HouseOk_L5 n (fun bound95 => loopN (fun (x : Int) J' => spec_HouseOk_L17 n (some (true)) (fun t111 => some (t111)) J' x h0 bound95) n ((0 : Int))) (fun t113 => some (t113)) (fun i114 bound115 => J' (i114, bound115)) x.1 h0 x.2) n ((0 : Int), (List.replicate (h0.Traders.length : Int).toNat (0 : Int))))))
def spec_HouseOk (n : Nat) (h0 : SHouse) : Option Bool :=
  (bif (decide ((h0.Lots.length : Int) > (40 : Int))) then some (false) else (bif (decide ((h0.Traders.length : Int) > (10 : Int))) then some (false) else (spec_l1In n h0.Taken (0 : Int) (1000000000000000 : Int)).bind fun r1 => (bif (!r1) then some (false) else spec_HouseOk_k5 n  h0)))
def spec_l16Bad_k0 (n : Nat)  (h0 : SHouse) (d1 : SDeed) : Option Bool :=
  (bif (decide (d1.Kind = (1 : Int))) then (spec_Duty6 n d1.Many d1.Value d1.Rate).bind fun r5 => (bif (!r5.2) then some (true) else (bd (w64 ((h0.Traders.length : Int) - (1 : Int))) fun (v6 : Int) => (spec_l1In n d1.Owner (0 : Int) v6).bind fun r7 => some ((!r7)))) else (bif (decide (d1.Kind = (8 : Int))) then (bif (decide (d1.Many < (1 : Int))) then some (true) else (spec_l1In n d1.New (1 : Int) (1000000 : Int)).bind fun r9 => some ((!r9))) else some (false)))
def spec_l16Bad (n : Nat) (h0 : SHouse) (d1 : SDeed) : Option Bool :=
  (spec_HouseOk n h0).bind fun r1 => (bif (!r1) then some (true) else (spec_l1In n d1.Kind (1 : Int) (8 : Int)).bind fun r2 => (bif (!r2) then some (true) else (spec_l1In n d1.Id (1 : Int) (1000000 : Int)).bind fun r3 => (bif (!r3) then some (true) else spec_l16Bad_k0 n  h0 d1)))
def spec_l16Find_L2 {R : Type} (n : Nat) (kx0 : Option R) (kxr : Int → Option R) (J : Int → Option R) (id1 : Int) (i2 : Int) (h3 : SHouse) : Option R :=
  (bif (decide (i2 < (h3.Lots.length : Int))) then ix i2 h3.Lots.length ((bd (h3.Lots.getD i2.toNat dSLot) fun (e7 : SLot) => (bif (decide (e7.Id = id1)) then kxr i2 else J (w64 (i2 + (1 : Int)))))) else kx0)
def spec_l16Find (n : Nat) (h0 : SHouse) (id1 : Int) : Option Int :=
  loopN (fun (x : Int) J' => spec_l16Find_L2 n (some ((-1 : Int))) (fun t9 => some (t9)) J' id1 x h0) n ((0 : Int))
def spec_l16With_L2 {R : Type} (n : Nat) (kx0 : Int → Option R) (J : Int → Option R) (k1 : Int) (h2 : Int) (c3 : List SLot) (c4 : List STrader) (x5 : SLot) (t6 : Int) (c7 : List SLot) (c8 : List STrader) : Option R :=
  (bif (decide (k1 < (c3.length : Int))) then ix k1 c3.length (chk (decide (k1.toNat < c3.length)) ((bif (decide ((c3.getD k1.toNat dSLot).Id < x5.Id)) then J (w64 (k1 + (1 : Int))) else kx0 k1))) else kx0 k1)
def spec_l16With (n : Nat) (h0 : SHouse) (x1 : SLot) : Option SHouse :=
  loopN (fun (x : Int) J' => spec_l16With_L2 n (fun k14 => chk (decide ((0 : Int) ≤ k14)) (chk (decide (k14 ≤ (h0.Lots.length : Int))) (chk (decide ((k14.toNat + (h0.Lots.length - k14.toNat)) ≤ h0.Lots.length)) ((bd ([x1] ++ ((h0.Lots.drop k14.toNat).take (h0.Lots.length - k14.toNat))) fun (l15 : List SLot) => chk (decide (l15.length * 56 ≤ 140737488355328)) (chk (decide ((0 : Int) ≤ k14)) (chk (decide (k14 ≤ (h0.Lots.length : Int))) (chk (decide ((0 + (k14.toNat - 0)) ≤ h0.Lots.length)) ((bd ((h0.Lots.drop 0).take (k14.toNat - 0)) fun (l16 : List SLot) => chk (decide (l16.length * 56 ≤ 140737488355328)) (chk (decide ((l16 ++ l15).length * 56 ≤ 140737488355328)) (some ((⟨(l16 ++ l15), h0.Traders, h0.Taken⟩ : SHouse)))))))))))))) J' x h0.Taken h0.Lots h0.Traders x1 (0 : Int) [] []) n ((0 : Int))
def spec_l16From (n : Nat) (kind0 : Int) : Option Int :=
  (bif (decide (kind0 = (3 : Int))) then some ((2 : Int)) else (bif (decide (kind0 = (6 : Int))) then some ((3 : Int)) else (bif (decide (kind0 = (7 : Int))) then some ((4 : Int)) else some ((1 : Int)))))
def spec_DoDeed_k0 (n : Nat)  (at51 : Int) (out52 : Int) (t53 : List SLot) (t54 : List STrader) (x55 : Int) (x56 : Int) (x57 : Int) (x58 : Int) (x59 : Int) (x60 : Int) (t61 : STrader) : Option (SHouse × Int) :=
  ix at51 t53.length (chk (decide (at51.toNat < t53.length)) ((bd (t53.set at51.toNat (⟨x55, x56, x57, x58, x59, (2 : Int), x60⟩ : SLot)) fun (l62 : List SLot) => ix x56 t54.length (chk (decide (x56.toNat < t54.length)) (some ((⟨l62, (t54.set x56.toNat t61), out52⟩ : SHouse), (0 : Int)))))))
def spec_DoDeed_k1 (n : Nat)  (at63 : Int) (out64 : Int) (t65 : List SLot) (t66 : List STrader) (x67 : Int) (x68 : Int) (x69 : Int) (x70 : Int) (x71 : Int) (x72 : Int) (t73 : STrader) : Option (SHouse × Int) :=
  ix at63 t65.length (chk (decide (at63.toNat < t65.length)) ((bd (t65.set at63.toNat (⟨x67, x68, x69, x70, x71, (1 : Int), x72⟩ : SLot)) fun (l74 : List SLot) => ix x68 t66.length (chk (decide (x68.toNat < t66.length)) (some ((⟨l74, (t66.set x68.toNat t73), out64⟩ : SHouse), (0 : Int)))))))
def spec_DoDeed_k2 (n : Nat)  (at98 : Int) (out99 : Int) (t100 : List SLot) (t101 : List STrader) (x102 : Int) (x103 : Int) (x104 : Int) (x105 : Int) (x106 : Int) (x107 : Int) (t108 : Int) (t109 : Int) (t110 : Int) : Option (SHouse × Int) :=
  ix at98 t100.length (chk (decide (at98.toNat < t100.length)) ((bd (t100.set at98.toNat (⟨x102, x103, x104, x105, x106, (4 : Int), x107⟩ : SLot)) fun (l111 : List SLot) => ix x103 t101.length (chk (decide (x103.toNat < t101.length)) ((bd (t101.set x103.toNat (⟨t108, t109, t110⟩ : STrader)) fun (l112 : List STrader) => some ((⟨l111, l112, out99⟩ : SHouse), (0 : Int))))))))
def spec_DoDeed_k3 (n : Nat)  (at157 : Int) (out158 : Int) (t159 : List SLot) (t160 : List STrader) (x161 : Int) (x162 : Int) (x163 : Int) (x164 : Int) (x165 : Int) (x166 : Int) (t167 : Int) (t168 : Int) (t169 : Int) : Option (SHouse × Int) :=
  ix at157 t159.length (chk (decide (at157.toNat < t159.length)) ((bd (t159.set at157.toNat (⟨x161, x162, x163, x164, x165, (3 : Int), x166⟩ : SLot)) fun (l170 : List SLot) => ix x162 t160.length (chk (decide (x162.toNat < t160.length)) ((bd (t160.set x162.toNat (⟨t167, t168, t169⟩ : STrader)) fun (l171 : List STrader) => some ((⟨l170, l171, out158⟩ : SHouse), (0 : Int))))))))
def spec_DoDeed_k4 (n : Nat)  (at187 : Int) (out188 : Int) (t189 : List SLot) (t190 : List STrader) (x191 : Int) (x192 : Int) (x193 : Int) (x194 : Int) (x195 : Int) (t196 : Int) (t197 : Int) (t198 : Int) : Option (SHouse × Int) :=
  ix at187 t189.length (chk (decide (at187.toNat < t189.length)) ((bd (t189.set at187.toNat (⟨x191, x192, x193, x194, x195, (5 : Int), (0 : Int)⟩ : SLot)) fun (l199 : List SLot) => ix x192 t190.length (chk (decide (x192.toNat < t190.length)) ((bd (t190.set x192.toNat (⟨t196, t197, t198⟩ : STrader)) fun (l200 : List STrader) => some ((⟨l199, l200, out188⟩ : SHouse), (0 : Int))))))))
def spec_DoDeed_k5 (n : Nat)  (at201 : Int) (out202 : Int) (t203 : List SLot) (t204 : List STrader) (x205 : Int) (x206 : Int) (x207 : Int) (x208 : Int) (x209 : Int) (x210 : Int) (t211 : STrader) : Option (SHouse × Int) :=
  ix at201 t203.length (chk (decide (at201.toNat < t203.length)) ((bd (t203.set at201.toNat (⟨x205, x206, x207, x208, x209, (5 : Int), x210⟩ : SLot)) fun (l212 : List SLot) => ix x206 t204.length (chk (decide (x206.toNat < t204.length)) (some ((⟨l212, (t204.set x206.toNat t211), out202⟩ : SHouse), (0 : Int)))))))
def spec_DoDeed_k6 (n : Nat)  (at225 : Int) (d1 : SDeed) (out226 : Int) (t227 : List SLot) (t228 : List STrader) (x229 : SLot) : Option (SHouse × Int) :=
  (bd (w64 (x229.Many - d1.Many)) fun (v230 : Int) => ix at225 t227.length (chk (decide (at225.toNat < t227.length)) ((bd (t227.set at225.toNat (⟨x229.Id, x229.Owner, v230, x229.Value, x229.Rate, x229.State, x229.Bond⟩ : SLot)) fun (l231 : List SLot) => (spec_l16With n (⟨l231, t228, out226⟩ : SHouse) (⟨d1.New, x229.Owner, d1.Many, x229.Value, x229.Rate, (1 : Int), (0 : Int)⟩ : SLot)).bind fun r232 => some (r232, (0 : Int))))))
def spec_DoDeed_k7 (n : Nat)  (at238 : Int) (out239 : Int) (t240 : List SLot) (t241 : List STrader) (x242 : SLot) (t243 : STrader) : Option (SHouse × Int) :=
  ix at238 t240.length (chk (decide (at238.toNat < t240.length)) (ix x242.Owner t241.length (chk (decide (x242.Owner.toNat < t241.length)) ((bd (t241.set x242.Owner.toNat t243) fun (l244 : List STrader) => some ((⟨(t240.set at238.toNat x242), l244, out239⟩ : SHouse), (0 : Int)))))))
def spec_DoDeed_k8 (n : Nat)  (at44 : Int) (h0 : SHouse) (d1 : SDeed) (out45 : Int) (t46 : List SLot) (t47 : List STrader) (x48 : SLot) : Option (SHouse × Int) :=
  (spec_Duty6 n x48.Many x48.Value x48.Rate).bind fun r49 => ix x48.Owner h0.Traders.length ((bd (h0.Traders.getD x48.Owner.toNat dSTrader) fun (e50 : STrader) => (bif (decide (d1.Kind = (2 : Int))) then spec_DoDeed_k0 n  at44 out45 t46 t47 x48.Id x48.Owner x48.Many x48.Value x48.Rate x48.Bond e50 else (bif (decide (d1.Kind = (3 : Int))) then spec_DoDeed_k1 n  at44 out45 t46 t47 x48.Id x48.Owner x48.Many x48.Value x48.Rate x48.Bond e50 else (bif (decide (d1.Kind = (4 : Int))) then (bif (decide (e50.Money < r49.1)) then some ((⟨t46, t47, out45⟩ : SHouse), (5 : Int)) else (bif (decide ((w64 (h0.Taken + r49.1)) > (1000000000000000 : Int))) then some ((⟨t46, t47, out45⟩ : SHouse), (5 : Int)) else (bd (w64 (e50.Money - r49.1)) fun (v134 : Int) => spec_DoDeed_k2 n  at44 (w64 (out45 + r49.1)) t46 t47 x48.Id x48.Owner x48.Many x48.Value x48.Rate x48.Bond v134 e50.Bond e50.Bound))) else (bif (decide (d1.Kind = (5 : Int))) then (bd (w64 (e50.Bond - e50.Bound)) fun (v148 : Int) => (bif (decide (v148 < r49.1)) then some ((⟨t46, t47, out45⟩ : SHouse), (5 : Int)) else (bd (w64 (e50.Bound + r49.1)) fun (v172 : Int) => spec_DoDeed_k3 n  at44 out45 t46 t47 x48.Id x48.Owner x48.Many x48.Value x48.Rate r49.1 e50.Money e50.Bond v172))) else (bif (decide (d1.Kind = (6 : Int))) then (bd (w64 (e50.Bound - r49.1)) fun (v186 : Int) => spec_DoDeed_k4 n  at44 out45 t46 t47 x48.Id x48.Owner x48.Many x48.Value x48.Rate e50.Money e50.Bond v186) else (bif (decide (d1.Kind = (7 : Int))) then spec_DoDeed_k5 n  at44 out45 t46 t47 x48.Id x48.Owner x48.Many x48.Value x48.Rate x48.Bond e50 else (bif (decide (d1.Kind = (8 : Int))) then (spec_l16Find n h0 d1.New).bind fun r213 => (bif (decide (r213 ≥ (0 : Int))) then some ((⟨t46, t47, out45⟩ : SHouse), (2 : Int)) else (bif (decide ((h0.Lots.length : Int) = (40 : Int))) then some ((⟨t46, t47, out45⟩ : SHouse), (2 : Int)) else spec_DoDeed_k6 n  at44 d1 out45 t46 t47 x48)) else spec_DoDeed_k7 n  at44 out45 t46 t47 x48 e50)))))))))
def spec_DoDeed_k9 (n : Nat)  (at27 : Int) (h0 : SHouse) (d1 : SDeed) (out28 : Int) (t29 : List SLot) (t30 : List STrader) : Option (SHouse × Int) :=
  ix at27 h0.Lots.length ((bd (h0.Lots.getD at27.toNat dSLot) fun (e31 : SLot) => (spec_l16From n d1.Kind).bind fun r32 => (bif (!(decide (e31.State = r32))) then some ((⟨t29, t30, out28⟩ : SHouse), (4 : Int)) else (bif (decide (d1.Kind = (8 : Int))) then (bif (decide (d1.Many ≥ e31.Many)) then some ((⟨t29, t30, out28⟩ : SHouse), (4 : Int)) else spec_DoDeed_k8 n  at27 h0 d1 out28 t29 t30 e31) else spec_DoDeed_k8 n  at27 h0 d1 out28 t29 t30 e31))))
def spec_DoDeed_k10 (n : Nat)  (h0 : SHouse) (d1 : SDeed) (out3 : Int) (t4 : List SLot) (t5 : List STrader) : Option (SHouse × Int) :=
  (spec_l16Find n h0 d1.Id).bind fun r6 => (bif (decide (d1.Kind = (1 : Int))) then (bif (decide (r6 ≥ (0 : Int))) then some ((⟨t4, t5, out3⟩ : SHouse), (2 : Int)) else (bif (decide ((h0.Lots.length : Int) = (40 : Int))) then some ((⟨t4, t5, out3⟩ : SHouse), (2 : Int)) else (spec_l16With n (⟨t4, t5, out3⟩ : SHouse) (⟨d1.Id, d1.Owner, d1.Many, d1.Value, d1.Rate, (1 : Int), (0 : Int)⟩ : SLot)).bind fun r22 => some (r22, (0 : Int)))) else (bif (decide (r6 < (0 : Int))) then some ((⟨t4, t5, out3⟩ : SHouse), (3 : Int)) else spec_DoDeed_k9 n  r6 h0 d1 out3 t4 t5))
def spec_DoDeed (n : Nat) (h0 : SHouse) (d1 : SDeed) : Option (SHouse × Int) :=
  (spec_l16Copy n h0).bind fun r1 => (spec_l16Bad n h0 d1).bind fun r2 => (bif r2 then some (r1, (1 : Int)) else spec_DoDeed_k10 n  h0 d1 r1.Taken r1.Lots r1.Traders)
def spec_RunDeeds_k0 {R : Type} (n : Nat) (kx0 : Int → List SLot → List STrader → List Int → Option R) (J : Int → Int → List SLot → List STrader → List Int → Option R) (list2 : List SDeed) (i17 : Int) (t4 : Int) (c5 : List SLot) (c6 : List STrader) (out18 : Int) (c19 : List SLot) (c20 : List STrader) (codes21 : List Int) : Option R :=
  ix i17 list2.length ((bd (list2.getD i17.toNat dSDeed) fun (e22 : SDeed) => (spec_DoDeed n (⟨c19, c20, out18⟩ : SHouse) e22).bind fun r23 => chk (decide ((codes21 ++ [r23.2]).length * 8 ≤ 140737488355328)) (J (w64 (i17 + (1 : Int))) r23.1.Taken r23.1.Lots r23.1.Traders (codes21 ++ [r23.2]))))
def spec_RunDeeds_L4 {R : Type} (n : Nat) (kx0 : Int → List SLot → List STrader → List Int → Option R) (J : Int → Int → List SLot → List STrader → List Int → Option R) (list2 : List SDeed) (i3 : Int) (t4 : Int) (c5 : List SLot) (c6 : List STrader) (out7 : Int) (c8 : List SLot) (c9 : List STrader) (codes10 : List Int) : Option R :=
  (bif (decide (i3 < (list2.length : Int))) then (bif (decide ((list2.length : Int) ≤ (200 : Int))) then spec_RunDeeds_k0 n kx0 J list2 i3 t4 c5 c6 out7 c8 c9 codes10 else kx0 out7 c8 c9 codes10) else kx0 out7 c8 c9 codes10)
def spec_RunDeeds (n : Nat) (h0 : SHouse) (list1 : List SDeed) : Option (SHouse × List Int) :=
  (spec_l16Copy n h0).bind fun r1 => loopN (fun (x : Int × Int × List SLot × List STrader × List Int) J' => spec_RunDeeds_L4 n (fun out34 c35 c36 codes37 => some ((⟨c35, c36, out34⟩ : SHouse), codes37)) (fun i38 out39 c40 c41 codes42 => J' (i38, out39, c40, c41, codes42)) list1 x.1 (0 : Int) [] [] x.2.1 x.2.2.1 x.2.2.2.1 x.2.2.2.2) n ((0 : Int), r1.Taken, r1.Lots, r1.Traders, [])
def impl_own_impl_Lot (n : Nat) (l0 : List SLot) : Option (List SLot) :=
  chk (decide ((0 : Int) ≤ (l0.length : Int))) (chk (decide ((l0.length : Int) ≤ 9223372036854775807 ∧ (l0.length : Int) * (56 : Int) ≤ 281474976710656)) (chk (decide (l0.length * 56 ≤ 140737488355328)) (some (l0))))
def impl_own_impl_Trader (n : Nat) (l0 : List STrader) : Option (List STrader) :=
  chk (decide ((0 : Int) ≤ (l0.length : Int))) (chk (decide ((l0.length : Int) ≤ 9223372036854775807 ∧ (l0.length : Int) * (24 : Int) ≤ 281474976710656)) (chk (decide (l0.length * 24 ≤ 140737488355328)) (some (l0))))
def impl_House_own (n : Nat) (h0 : SHouse) : Option SHouse :=
  (impl_own_impl_Lot n h0.Lots).bind fun r1 => (impl_own_impl_Trader n h0.Traders).bind fun r2 => some ((⟨r1, r2, h0.Taken⟩ : SHouse))
def impl_in (n : Nat) (n0 : Int) (least1 : Int) (most2 : Int) : Option Bool :=
  (bif (decide (n0 ≥ least1)) then some ((decide (n0 ≤ most2))) else some (false))
def impl_idRight (n : Nat) (n0 : Int) : Option Bool :=
  (impl_in n n0 (1 : Int) (1000000 : Int)).bind fun r1 => some (r1)
def impl_lotRight (n : Nat) (many0 : Int) (value1 : Int) (rate2 : Int) : Option Bool :=
  (impl_in n many0 (1 : Int) (1000000 : Int)).bind fun r1 => (bif r1 then (impl_in n value1 (0 : Int) (1000000 : Int)).bind fun r2 => (bif r2 then (impl_in n rate2 (0 : Int) (5000 : Int)).bind fun r3 => some (r3) else some (false)) else some (false))
def impl_Duty6 (n : Nat) (many0 : Int) (value1 : Int) (rate2 : Int) : Option (Int × Bool) :=
  (impl_lotRight n many0 value1 rate2).bind fun r1 => (bif (!r1) then some ((0 : Int), false) else (bd (w64 ((w64 (many0 * value1)) * rate2)) fun (v4 : Int) => (bd (w64 (Int.tdiv v4 (1000 : Int))) fun (v5 : Int) => some (v5, true))))
def impl_Lot_duty (n : Nat) (l0 : SLot) : Option Int :=
  (impl_Duty6 n l0.Many l0.Value l0.Rate).bind fun r1 => some (r1.1)
def impl_HouseOk_k0 {R : Type} (n : Nat) (kx0 : List Int → Option R) (kxr : Bool → Option R) (J : Int → List Int → Option R) (t3 : List SLot) (t4 : Int) (t41 : Int) (h6 : SHouse) (bound42 : List Int) (l43 : SLot) : Option R :=
  ix l43.Owner bound42.length (chk (decide (l43.Owner.toNat < bound42.length)) ((bd (w64 ((bound42.getD l43.Owner.toNat (0 : Int)) + l43.Bond)) fun (v44 : Int) => ix l43.Owner bound42.length (chk (decide (l43.Owner.toNat < bound42.length)) ((bd (bound42.set l43.Owner.toNat v44) fun (l45 : List Int) => J (w64 (t41 + (1 : Int))) l45))))))
def impl_HouseOk_k1 {R : Type} (n : Nat) (kx0 : List Int → Option R) (kxr : Bool → Option R) (J : Int → List Int → Option R) (t3 : List SLot) (t4 : Int) (t33 : Int) (h6 : SHouse) (bound34 : List Int) (l35 : SLot) : Option R :=
  (bif (decide (l35.State = (3 : Int))) then (impl_Lot_duty n l35).bind fun r36 => (bif (!(decide (l35.Bond = r36))) then kxr false else impl_HouseOk_k0 n kx0 kxr J t3 t4 t33 h6 bound34 l35) else (bif (!(decide (l35.Bond = (0 : Int)))) then kxr false else impl_HouseOk_k0 n kx0 kxr J t3 t4 t33 h6 bound34 l35))
def impl_HouseOk_k2 {R : Type} (n : Nat) (kx0 : List Int → Option R) (kxr : Bool → Option R) (J : Int → List Int → Option R) (t3 : List SLot) (t4 : Int) (t8 : Int) (h6 : SHouse) (bound9 : List Int) : Option R :=
  ix t8 t3.length ((bd (t3.getD t8.toNat dSLot) fun (e10 : SLot) => (impl_idRight n e10.Id).bind fun r11 => (bif (!r11) then kxr false else (bif (decide (t8 > (0 : Int))) then ix (w64 (t8 - (1 : Int))) h6.Lots.length ((bd (h6.Lots.getD ((w64 (t8 - (1 : Int))).toNat) dSLot) fun (e15 : SLot) => (bif (decide (e15.Id ≥ e10.Id)) then kxr false else (bd (w64 ((h6.Traders.length : Int) - (1 : Int))) fun (v19 : Int) => (impl_in n e10.Owner (0 : Int) v19).bind fun r20 => (bif (!r20) then kxr false else (impl_lotRight n e10.Many e10.Value e10.Rate).bind fun r24 => (bif (!r24) then kxr false else (impl_in n e10.State (1 : Int) (5 : Int)).bind fun r28 => (bif (!r28) then kxr false else impl_HouseOk_k1 n kx0 kxr J t3 t4 t8 h6 bound9 e10))))))) else (bd (w64 ((h6.Traders.length : Int) - (1 : Int))) fun (v63 : Int) => (impl_in n e10.Owner (0 : Int) v63).bind fun r64 => (bif (!r64) then kxr false else (impl_lotRight n e10.Many e10.Value e10.Rate).bind fun r68 => (bif (!r68) then kxr false else (impl_in n e10.State (1 : Int) (5 : Int)).bind fun r72 => (bif (!r72) then kxr false else impl_HouseOk_k1 n kx0 kxr J t3 t4 t8 h6 bound9 e10))))))))
def impl_HouseOk_L5 {R : Type} (n : Nat) (kx0 : List Int → Option R) (kxr : Bool → Option R) (J : Int → List Int → Option R) (t3 : List SLot) (t4 : Int) (t5 : Int) (h6 : SHouse) (bound7 : List Int) : Option R :=
  (bif (decide (t5 < t4)) then impl_HouseOk_k2 n kx0 kxr J t3 t4 t5 h6 bound7 else kx0 bound7)
def impl_HouseOk_k3 {R : Type} (n : Nat) (kx2 : Option R) (kxr : Bool → Option R) (J : Int → Option R) (t81 : List STrader) (t82 : Int) (t85 : Int) (bound84 : List Int) : Option R :=
  ix t85 t81.length ((bd (t81.getD t85.toNat dSTrader) fun (e86 : STrader) => (impl_in n e86.Money (0 : Int) (1000000000000000 : Int)).bind fun r87 => (bif (!r87) then kxr false else (impl_in n e86.Bond (0 : Int) (1000000000000000 : Int)).bind fun r89 => (bif (!r89) then kxr false else (impl_in n e86.Bound (0 : Int) e86.Bond).bind fun r91 => (bif (!r91) then kxr false else ix t85 bound84.length (chk (decide (t85.toNat < bound84.length)) ((bif (!(decide (e86.Bound = (bound84.getD t85.toNat (0 : Int))))) then kxr false else J (w64 (t85 + (1 : Int)))))))))))
def impl_HouseOk_L17 {R : Type} (n : Nat) (kx2 : Option R) (kxr : Bool → Option R) (J : Int → Option R) (t81 : List STrader) (t82 : Int) (t83 : Int) (bound84 : List Int) : Option R :=
  (bif (decide (t83 < t82)) then impl_HouseOk_k3 n kx2 kxr J t81 t82 t83 bound84 else kx2)
def impl_HouseOk_k4 (n : Nat)  (h0 : SHouse) : Option Bool :=
  chk (decide ((0 : Int) ≤ (h0.Traders.length : Int))) (chk (decide ((h0.Traders.length : Int) ≤ (h0.Traders.length : Int))) (chk (decide ((h0.Traders.length : Int) ≤ 9223372036854775807 ∧ (h0.Traders.length : Int) * (8 : Int) ≤ 281474976710656)) (loopN (fun (x : Int × List Int) J' => impl_HouseOk_L5 n (fun bound80 => loopN (fun (x : Int) J' => impl_HouseOk_L17 n (some (true)) (fun t97 => some (t97)) J' h0.Traders (h0.Traders.length : Int) x bound80) n ((0 : Int))) (fun t99 => some (t99)) (fun t100 bound101 => J' (t100, bound101)) h0.Lots (h0.Lots.length : Int) x.1 h0 x.2) n ((0 : Int), (List.replicate (h0.Traders.length : Int).toNat (0 : Int))))))
def impl_HouseOk (n : Nat) (h0 : SHouse) : Option Bool :=
  (bif (decide ((h0.Lots.length : Int) > (40 : Int))) then some (false) else (bif (decide ((h0.Traders.length : Int) > (10 : Int))) then some (false) else (impl_in n h0.Taken (0 : Int) (1000000000000000 : Int)).bind fun r1 => (bif (!r1) then some (false) else impl_HouseOk_k4 n  h0)))
def impl_House_lot_1 (n : Nat) (l0 : SLot) (a1 : Int) : Option Bool :=
  some ((decide (l0.Id = a1)))
def slices_IndexFunc_impl_Lot_impl_Lot__impl_House_lot_1_L2 {R : Type} (n : Nat) (kx0 : Option R) (kxr : Int → Option R) (J : Int → Option R) (s1 : List SLot) (f2 : Int) (t3 : Int) (t4 : Int) : Option R :=
  (bif (decide (t4 < t3)) then ix t4 s1.length ((bd (s1.getD t4.toNat dSLot) fun (e9 : SLot) => (impl_House_lot_1 n e9 f2).bind fun r10 => (bif r10 then kxr t4 else J (w64 (t4 + (1 : Int)))))) else kx0)
def slices_IndexFunc_impl_Lot_impl_Lot__impl_House_lot_1 (n : Nat) (s0 : List SLot) (f1c0 : Int) : Option Int :=
  loopN (fun (x : Int) J' => slices_IndexFunc_impl_Lot_impl_Lot__impl_House_lot_1_L2 n (some ((-1 : Int))) (fun t12 => some (t12)) J' s0 f1c0 (s0.length : Int) x) n ((0 : Int))
def impl_House_lot (n : Nat) (h0 : SHouse) (id1 : Int) : Option Int :=
  (slices_IndexFunc_impl_Lot_impl_Lot__impl_House_lot_1 n h0.Lots id1).bind fun r1 => some (r1)
def impl_DoDeed_1 (n : Nat) (id0 : Int) (a1 : SHouse) : Option Bool :=
  (impl_House_lot n a1 id0).bind fun r1 => (bif (decide (r1 ≥ (0 : Int))) then some (true) else some ((decide ((a1.Lots.length : Int) = (40 : Int)))))
def impl_House_put_1 (n : Nat) (a0 : SLot) (b1 : SLot) : Option Int :=
  some ((w64 (a0.Id - b1.Id)))
def slices_SortFunc_impl_Lot_impl_Lot__impl_House_put_1 (n : Nat) (l0 : List SLot) : Option (List SLot) :=
  sortL dSLot (fun a b => impl_House_put_1 n a b) l0
def impl_House_put (n : Nat) (h0 : SHouse) (l1 : SLot) : Option SHouse :=
  chk (decide ((h0.Lots ++ [l1]).length * 56 ≤ 140737488355328)) ((slices_SortFunc_impl_Lot_impl_Lot__impl_House_put_1 n (h0.Lots ++ [l1])).bind fun r1 => some ((⟨r1, h0.Traders, h0.Taken⟩ : SHouse)))
def impl_DoDeed_k0 (n : Nat)  (l124 : Nat) (t125 : Nat) (n126 : Int) (x127 : Int) (t128 : List SLot) (t129 : List STrader) : Option (SHouse × Int) :=
  chk (decide (t125 < t129.length)) ((bd (w64 ((t129.getD t125 dSTrader).Money - n126)) fun (v130 : Int) => chk (decide (t125 < t129.length)) ((bd (t129.getD t125 dSTrader) fun (e131 : STrader) => (bd (t129.set t125 (⟨v130, e131.Bond, e131.Bound⟩ : STrader)) fun (l132 : List STrader) => chk (decide (l124 < t128.length)) ((bd (t128.getD l124 dSLot) fun (e133 : SLot) => (bd (t128.set l124 (⟨e133.Id, e133.Owner, e133.Many, e133.Value, e133.Rate, (4 : Int), e133.Bond⟩ : SLot)) fun (l134 : List SLot) => (impl_House_own n (⟨l134, l132, (w64 (x127 + n126))⟩ : SHouse)).bind fun r138 => some (r138, (0 : Int))))))))))
def impl_DoDeed_k1 (n : Nat)  (l148 : Nat) (t149 : Nat) (n150 : Int) (x151 : Int) (t152 : List SLot) (t153 : List STrader) : Option (SHouse × Int) :=
  chk (decide (t149 < t153.length)) ((bd (w64 ((t153.getD t149 dSTrader).Bound + n150)) fun (v154 : Int) => chk (decide (t149 < t153.length)) ((bd (t153.getD t149 dSTrader) fun (e155 : STrader) => (bd (t153.set t149 (⟨e155.Money, e155.Bond, v154⟩ : STrader)) fun (l156 : List STrader) => chk (decide (l148 < t152.length)) ((bd (t152.getD l148 dSLot) fun (e157 : SLot) => (bd (t152.set l148 (⟨e157.Id, e157.Owner, e157.Many, e157.Value, e157.Rate, (3 : Int), e157.Bond⟩ : SLot)) fun (l158 : List SLot) => chk (decide (l148 < l158.length)) ((bd (l158.getD l148 dSLot) fun (e159 : SLot) => (bd (l158.set l148 (⟨e159.Id, e159.Owner, e159.Many, e159.Value, e159.Rate, e159.State, n150⟩ : SLot)) fun (l160 : List SLot) => (impl_House_own n (⟨l160, l156, x151⟩ : SHouse)).bind fun r164 => some (r164, (0 : Int)))))))))))))
def impl_DoDeed_k2 (n : Nat)  (l183 : Nat) (d1 : SDeed) (x184 : Int) (t185 : List SLot) (t186 : List STrader) : Option (SHouse × Int) :=
  chk (decide (l183 < t185.length)) ((bd (w64 ((t185.getD l183 dSLot).Many - d1.Many)) fun (v187 : Int) => chk (decide (l183 < t185.length)) ((bd (t185.getD l183 dSLot) fun (e188 : SLot) => (bd (t185.set l183 (⟨e188.Id, e188.Owner, v187, e188.Value, e188.Rate, e188.State, e188.Bond⟩ : SLot)) fun (l189 : List SLot) => chk (decide (l183 < l189.length)) ((bd (l189.getD l183 dSLot) fun (e190 : SLot) => (impl_House_put n (⟨l189, t186, x184⟩ : SHouse) (⟨d1.New, e190.Owner, d1.Many, e190.Value, e190.Rate, e190.State, e190.Bond⟩ : SLot)).bind fun r191 => (impl_House_own n r191).bind fun r196 => some (r196, (0 : Int)))))))))
def impl_DoDeed_k3 (n : Nat)  (l82 : Nat) (t83 : Nat) (d1 : SDeed) (was84 : Int) (t85 : List SLot) (t86 : List STrader) (x87 : Int) (t88 : List SLot) (t89 : List STrader) : Option (SHouse × Int) :=
  (bif (decide (d1.Kind = (2 : Int))) then chk (decide (l82 < t88.length)) ((bd (t88.getD l82 dSLot) fun (e90 : SLot) => (bd (t88.set l82 (⟨e90.Id, e90.Owner, e90.Many, e90.Value, e90.Rate, (2 : Int), e90.Bond⟩ : SLot)) fun (l91 : List SLot) => (impl_House_own n (⟨l91, t89, x87⟩ : SHouse)).bind fun r96 => some (r96, (0 : Int))))) else (bif (decide (d1.Kind = (3 : Int))) then chk (decide (l82 < t88.length)) ((bd (t88.getD l82 dSLot) fun (e97 : SLot) => (bd (t88.set l82 (⟨e97.Id, e97.Owner, e97.Many, e97.Value, e97.Rate, (1 : Int), e97.Bond⟩ : SLot)) fun (l98 : List SLot) => (impl_House_own n (⟨l98, t89, x87⟩ : SHouse)).bind fun r102 => some (r102, (0 : Int))))) else (bif (decide (d1.Kind = (4 : Int))) then chk (decide (l82 < t88.length)) ((bd (t88.getD l82 dSLot) fun (e103 : SLot) => (impl_Lot_duty n e103).bind fun r104 => chk (decide (t83 < t89.length)) ((bif (decide ((t89.getD t83 dSTrader).Money < r104)) then some ((⟨t85, t86, was84⟩ : SHouse), (5 : Int)) else (bif (decide ((w64 (x87 + r104)) > (1000000000000000 : Int))) then some ((⟨t85, t86, was84⟩ : SHouse), (5 : Int)) else impl_DoDeed_k0 n  l82 t83 r104 x87 t88 t89))))) else (bif (decide (d1.Kind = (5 : Int))) then chk (decide (l82 < t88.length)) ((bd (t88.getD l82 dSLot) fun (e145 : SLot) => (impl_Lot_duty n e145).bind fun r146 => chk (decide (t83 < t89.length)) (chk (decide (t83 < t89.length)) ((bd (w64 ((t89.getD t83 dSTrader).Bond - (t89.getD t83 dSTrader).Bound)) fun (v147 : Int) => (bif (decide (v147 < r146)) then some ((⟨t85, t86, was84⟩ : SHouse), (5 : Int)) else impl_DoDeed_k1 n  l82 t83 r146 x87 t88 t89)))))) else (bif (decide (d1.Kind = (6 : Int))) then chk (decide (t83 < t89.length)) (chk (decide (l82 < t88.length)) ((bd (w64 ((t89.getD t83 dSTrader).Bound - (t88.getD l82 dSLot).Bond)) fun (v165 : Int) => chk (decide (t83 < t89.length)) ((bd (t89.getD t83 dSTrader) fun (e166 : STrader) => (bd (t89.set t83 (⟨e166.Money, e166.Bond, v165⟩ : STrader)) fun (l167 : List STrader) => chk (decide (l82 < t88.length)) ((bd (t88.getD l82 dSLot) fun (e168 : SLot) => (bd (t88.set l82 (⟨e168.Id, e168.Owner, e168.Many, e168.Value, e168.Rate, (5 : Int), e168.Bond⟩ : SLot)) fun (l169 : List SLot) => chk (decide (l82 < l169.length)) ((bd (l169.getD l82 dSLot) fun (e170 : SLot) => (bd (l169.set l82 (⟨e170.Id, e170.Owner, e170.Many, e170.Value, e170.Rate, e170.State, (0 : Int)⟩ : SLot)) fun (l171 : List SLot) => (impl_House_own n (⟨l171, l167, x87⟩ : SHouse)).bind fun r175 => some (r175, (0 : Int)))))))))))))) else (bif (decide (d1.Kind = (7 : Int))) then chk (decide (l82 < t88.length)) ((bd (t88.getD l82 dSLot) fun (e176 : SLot) => (bd (t88.set l82 (⟨e176.Id, e176.Owner, e176.Many, e176.Value, e176.Rate, (5 : Int), e176.Bond⟩ : SLot)) fun (l177 : List SLot) => (impl_House_own n (⟨l177, t89, x87⟩ : SHouse)).bind fun r181 => some (r181, (0 : Int))))) else (bif (decide (d1.Kind = (8 : Int))) then (impl_DoDeed_1 n d1.New (⟨t88, t89, x87⟩ : SHouse)).bind fun r182 => (bif r182 then some ((⟨t85, t86, was84⟩ : SHouse), (2 : Int)) else impl_DoDeed_k2 n  l82 d1 x87 t88 t89) else (impl_House_own n (⟨t88, t89, x87⟩ : SHouse)).bind fun r200 => some (r200, (0 : Int)))))))))
def impl_DoDeed_k4 (n : Nat)  (l57 : Nat) (t58 : Nat) (d1 : SDeed) (was59 : Int) (t60 : List SLot) (t61 : List STrader) (x62 : Int) (t63 : List SLot) (t64 : List STrader) : Option (SHouse × Int) :=
  chk (decide (l57 < t63.length)) ((bif (!(decide ((t63.getD l57 dSLot).State = (2 : Int)))) then some ((⟨t60, t61, was59⟩ : SHouse), (4 : Int)) else (bif (decide (d1.Kind = (8 : Int))) then chk (decide (l57 < t63.length)) ((bif (decide (d1.Many ≥ (t63.getD l57 dSLot).Many)) then some ((⟨t60, t61, was59⟩ : SHouse), (4 : Int)) else impl_DoDeed_k3 n  l57 t58 d1 was59 t60 t61 x62 t63 t64)) else impl_DoDeed_k3 n  l57 t58 d1 was59 t60 t61 x62 t63 t64)))
def impl_DoDeed_k5 (n : Nat)  (l233 : Nat) (t234 : Nat) (d1 : SDeed) (was235 : Int) (t236 : List SLot) (t237 : List STrader) (x238 : Int) (t239 : List SLot) (t240 : List STrader) : Option (SHouse × Int) :=
  chk (decide (l233 < t239.length)) ((bif (!(decide ((t239.getD l233 dSLot).State = (3 : Int)))) then some ((⟨t236, t237, was235⟩ : SHouse), (4 : Int)) else (bif (decide (d1.Kind = (8 : Int))) then chk (decide (l233 < t239.length)) ((bif (decide (d1.Many ≥ (t239.getD l233 dSLot).Many)) then some ((⟨t236, t237, was235⟩ : SHouse), (4 : Int)) else impl_DoDeed_k3 n  l233 t234 d1 was235 t236 t237 x238 t239 t240)) else impl_DoDeed_k3 n  l233 t234 d1 was235 t236 t237 x238 t239 t240)))
def impl_DoDeed_k6 (n : Nat)  (l282 : Nat) (t283 : Nat) (d1 : SDeed) (was284 : Int) (t285 : List SLot) (t286 : List STrader) (x287 : Int) (t288 : List SLot) (t289 : List STrader) : Option (SHouse × Int) :=
  chk (decide (l282 < t288.length)) ((bif (!(decide ((t288.getD l282 dSLot).State = (4 : Int)))) then some ((⟨t285, t286, was284⟩ : SHouse), (4 : Int)) else (bif (decide (d1.Kind = (8 : Int))) then chk (decide (l282 < t288.length)) ((bif (decide (d1.Many ≥ (t288.getD l282 dSLot).Many)) then some ((⟨t285, t286, was284⟩ : SHouse), (4 : Int)) else impl_DoDeed_k3 n  l282 t283 d1 was284 t285 t286 x287 t288 t289)) else impl_DoDeed_k3 n  l282 t283 d1 was284 t285 t286 x287 t288 t289)))
def impl_DoDeed_k7 (n : Nat)  (l331 : Nat) (t332 : Nat) (d1 : SDeed) (was333 : Int) (t334 : List SLot) (t335 : List STrader) (x336 : Int) (t337 : List SLot) (t338 : List STrader) : Option (SHouse × Int) :=
  chk (decide (l331 < t337.length)) ((bif (!(decide ((t337.getD l331 dSLot).State = (1 : Int)))) then some ((⟨t334, t335, was333⟩ : SHouse), (4 : Int)) else (bif (decide (d1.Kind = (8 : Int))) then chk (decide (l331 < t337.length)) ((bif (decide (d1.Many ≥ (t337.getD l331 dSLot).Many)) then some ((⟨t334, t335, was333⟩ : SHouse), (4 : Int)) else impl_DoDeed_k3 n  l331 t332 d1 was333 t334 t335 x336 t337 t338)) else impl_DoDeed_k3 n  l331 t332 d1 was333 t334 t335 x336 t337 t338)))
def impl_DoDeed_k8 (n : Nat)  (i50 : Int) (d1 : SDeed) (was51 : Int) (t52 : List SLot) (t53 : List STrader) (x54 : Int) (t55 : List SLot) (t56 : List STrader) : Option (SHouse × Int) :=
  ix i50 t55.length (chk (decide (i50.toNat < t55.length)) (ix ((t55.getD i50.toNat dSLot).Owner) t56.length ((bif (decide (d1.Kind = (3 : Int))) then impl_DoDeed_k4 n  i50.toNat (((t55.getD i50.toNat dSLot).Owner).toNat) d1 was51 t52 t53 x54 t55 t56 else (bif (decide (d1.Kind = (6 : Int))) then impl_DoDeed_k5 n  i50.toNat (((t55.getD i50.toNat dSLot).Owner).toNat) d1 was51 t52 t53 x54 t55 t56 else (bif (decide (d1.Kind = (7 : Int))) then impl_DoDeed_k6 n  i50.toNat (((t55.getD i50.toNat dSLot).Owner).toNat) d1 was51 t52 t53 x54 t55 t56 else impl_DoDeed_k7 n  i50.toNat (((t55.getD i50.toNat dSLot).Owner).toNat) d1 was51 t52 t53 x54 t55 t56))))))
def impl_DoDeed_k9 (n : Nat)  (h0 : SHouse) (d1 : SDeed) (was31 : Int) (t32 : List SLot) (t33 : List STrader) : Option (SHouse × Int) :=
  (impl_House_own n h0).bind fun r34 => (bif (decide (d1.Kind = (1 : Int))) then (impl_DoDeed_1 n d1.Id r34).bind fun r35 => (bif r35 then some ((⟨t32, t33, was31⟩ : SHouse), (2 : Int)) else (impl_House_put n r34 (⟨d1.Id, d1.Owner, d1.Many, d1.Value, d1.Rate, (1 : Int), (0 : Int)⟩ : SLot)).bind fun r41 => (impl_House_own n r41).bind fun r42 => some (r42, (0 : Int))) else (impl_House_lot n r34 d1.Id).bind fun r380 => (bif (decide (r380 < (0 : Int))) then some ((⟨t32, t33, was31⟩ : SHouse), (3 : Int)) else impl_DoDeed_k8 n  r380 d1 was31 t32 t33 r34.Taken r34.Lots r34.Traders))
def impl_DoDeed (n : Nat) (h0 : SHouse) (d1 : SDeed) : Option (SHouse × Int) :=
  (impl_House_own n h0).bind fun r1 => (impl_HouseOk n h0).bind fun r2 => (bif (!r2) then some (r1, (1 : Int)) else (impl_in n d1.Kind (1 : Int) (8 : Int)).bind fun r6 => (bif (!r6) then some (r1, (1 : Int)) else (impl_idRight n d1.Id).bind fun r10 => (bif (!r10) then some (r1, (1 : Int)) else (bif (decide (d1.Kind = (1 : Int))) then (bd (w64 ((h0.Traders.length : Int) - (1 : Int))) fun (v14 : Int) => (impl_in n d1.Owner (0 : Int) v14).bind fun r15 => (bif (!r15) then some (r1, (1 : Int)) else (impl_lotRight n d1.Many d1.Value d1.Rate).bind fun r19 => (bif (!r19) then some (r1, (1 : Int)) else (bif (decide (d1.Kind = (8 : Int))) then (bif (decide (d1.Many < (1 : Int))) then some (r1, (1 : Int)) else (impl_idRight n d1.New).bind fun r26 => (bif (!r26) then some (r1, (1 : Int)) else impl_DoDeed_k9 n  h0 d1 r1.Taken r1.Lots r1.Traders)) else impl_DoDeed_k9 n  h0 d1 r1.Taken r1.Lots r1.Traders)))) else (bif (decide (d1.Kind = (8 : Int))) then (bif (decide (d1.Many < (1 : Int))) then some (r1, (1 : Int)) else (impl_idRight n d1.New).bind fun r403 => (bif (!r403) then some (r1, (1 : Int)) else impl_DoDeed_k9 n  h0 d1 r1.Taken r1.Lots r1.Traders)) else impl_DoDeed_k9 n  h0 d1 r1.Taken r1.Lots r1.Traders)))))
def impl_own_int (n : Nat) (l0 : List Int) : Option (List Int) :=
  chk (decide ((0 : Int) ≤ (l0.length : Int))) (chk (decide ((l0.length : Int) ≤ 9223372036854775807 ∧ (l0.length : Int) * (8 : Int) ≤ 281474976710656)) (chk (decide (l0.length * 8 ≤ 140737488355328)) (some (l0))))
def impl_RunDeeds_k0 {R : Type} (n : Nat) (kx0 : Int → List SLot → List STrader → List Int → Option R) (J : Int → Int → List SLot → List STrader → List Int → Option R) (t5 : List SDeed) (t6 : Int) (t15 : Int) (h16 : Int) (c17 : List SLot) (c18 : List STrader) (t11 : Int) (c12 : List SLot) (c13 : List STrader) (codes19 : List Int) : Option R :=
  ix t15 t5.length ((bd (t5.getD t15.toNat dSDeed) fun (e20 : SDeed) => (impl_DoDeed n (⟨c17, c18, h16⟩ : SHouse) e20).bind fun r21 => chk (decide ((codes19 ++ [r21.2]).length * 8 ≤ 140737488355328)) (J (w64 (t15 + (1 : Int))) r21.1.Taken r21.1.Lots r21.1.Traders (codes19 ++ [r21.2]))))
def impl_RunDeeds_L6 {R : Type} (n : Nat) (kx0 : Int → List SLot → List STrader → List Int → Option R) (J : Int → Int → List SLot → List STrader → List Int → Option R) (t5 : List SDeed) (t6 : Int) (t7 : Int) (h8 : Int) (c9 : List SLot) (c10 : List STrader) (t11 : Int) (c12 : List SLot) (c13 : List STrader) (codes14 : List Int) : Option R :=
  (bif (decide (t7 < t6)) then impl_RunDeeds_k0 n kx0 J t5 t6 t7 h8 c9 c10 t11 c12 c13 codes14 else kx0 h8 c9 c10 codes14)
def impl_RunDeeds_k1 (n : Nat)  (list1 : List SDeed) (h2 : Int) (t3 : List SLot) (t4 : List STrader) : Option (SHouse × List Int) :=
  loopN (fun (x : Int × Int × List SLot × List STrader × List Int) J' => impl_RunDeeds_L6 n (fun h22 c23 c24 codes25 => (impl_own_int n codes25).bind fun r26 => some ((⟨c23, c24, h22⟩ : SHouse), r26)) (fun t27 h28 c29 c30 codes31 => J' (t27, h28, c29, c30, codes31)) list1 (list1.length : Int) x.1 x.2.1 x.2.2.1 x.2.2.2.1 (0 : Int) [] [] x.2.2.2.2) n ((0 : Int), h2, t3, t4, [])
def impl_RunDeeds (n : Nat) (h0 : SHouse) (list1 : List SDeed) : Option (SHouse × List Int) :=
  (impl_House_own n h0).bind fun r1 => (bif (decide ((list1.length : Int) > (200 : Int))) then some (r1, []) else impl_RunDeeds_k1 n  list1 r1.Taken r1.Lots r1.Traders)
def laws_eqLot_k0 (n : Nat)  (a0 : SLot) (b1 : SLot) : Option Bool :=
  (bif (!(decide (a0.Many = b1.Many))) then some (false) else (bif (!(decide (a0.Value = b1.Value))) then some (false) else (bif (!(decide (a0.Rate = b1.Rate))) then some (false) else (bif (!(decide (a0.State = b1.State))) then some (false) else (bif (!(decide (a0.Bond = b1.Bond))) then some (false) else some (true))))))
def laws_eqLot (n : Nat) (a0 : SLot) (b1 : SLot) : Option Bool :=
  (bif (!(decide (a0.Id = b1.Id))) then some (false) else (bif (!(decide (a0.Owner = b1.Owner))) then some (false) else laws_eqLot_k0 n  a0 b1))
def laws_eqLotS_L4 {R : Type} (n : Nat) (kx0 : Option R) (kxr : Bool → Option R) (J : Int → Option R) (a1 : List SLot) (b2 : List SLot) (i3 : Int) : Option R :=
  (bif (decide (i3 < (a1.length : Int))) then ix i3 a1.length ((bd (a1.getD i3.toNat dSLot) fun (e9 : SLot) => ix i3 b2.length ((bd (b2.getD i3.toNat dSLot) fun (e10 : SLot) => (laws_eqLot n e9 e10).bind fun r11 => (bif (!r11) then kxr false else J (w64 (i3 + (1 : Int)))))))) else kx0)
def laws_eqLotS (n : Nat) (a0 : List SLot) (b1 : List SLot) : Option Bool :=
  (bif (!(decide ((a0.length : Int) = (b1.length : Int)))) then some (false) else loopN (fun (x : Int) J' => laws_eqLotS_L4 n (some (true)) (fun t15 => some (t15)) J' a0 b1 x) n ((0 : Int)))
def laws_eqTrader (n : Nat) (a0 : STrader) (b1 : STrader) : Option Bool :=
  (bif (!(decide (a0.Money = b1.Money))) then some (false) else (bif (!(decide (a0.Bond = b1.Bond))) then some (false) else (bif (!(decide (a0.Bound = b1.Bound))) then some (false) else some (true))))
def laws_eqTraderS_L4 {R : Type} (n : Nat) (kx0 : Option R) (kxr : Bool → Option R) (J : Int → Option R) (a1 : List STrader) (b2 : List STrader) (i3 : Int) : Option R :=
  (bif (decide (i3 < (a1.length : Int))) then ix i3 a1.length ((bd (a1.getD i3.toNat dSTrader) fun (e9 : STrader) => ix i3 b2.length ((bd (b2.getD i3.toNat dSTrader) fun (e10 : STrader) => (laws_eqTrader n e9 e10).bind fun r11 => (bif (!r11) then kxr false else J (w64 (i3 + (1 : Int)))))))) else kx0)
def laws_eqTraderS (n : Nat) (a0 : List STrader) (b1 : List STrader) : Option Bool :=
  (bif (!(decide ((a0.length : Int) = (b1.length : Int)))) then some (false) else loopN (fun (x : Int) J' => laws_eqTraderS_L4 n (some (true)) (fun t15 => some (t15)) J' a0 b1 x) n ((0 : Int)))
def laws_eqHouse (n : Nat) (a0 : SHouse) (b1 : SHouse) : Option Bool :=
  (laws_eqLotS n a0.Lots b1.Lots).bind fun r1 => (bif (!r1) then some (false) else (laws_eqTraderS n a0.Traders b1.Traders).bind fun r3 => (bif (!r3) then some (false) else (bif (!(decide (a0.Taken = b1.Taken))) then some (false) else some (true))))
def laws_eqIntS_L4 {R : Type} (n : Nat) (kx0 : Option R) (kxr : Bool → Option R) (J : Int → Option R) (a1 : List Int) (b2 : List Int) (i3 : Int) : Option R :=
  (bif (decide (i3 < (a1.length : Int))) then ix i3 a1.length (ix i3 b2.length ((bif (!(decide ((a1.getD i3.toNat (0 : Int)) = (b2.getD i3.toNat (0 : Int))))) then kxr false else J (w64 (i3 + (1 : Int)))))) else kx0)
def laws_eqIntS (n : Nat) (a0 : List Int) (b1 : List Int) : Option Bool :=
  (bif (!(decide ((a0.length : Int) = (b1.length : Int)))) then some (false) else loopN (fun (x : Int) J' => laws_eqIntS_L4 n (some (true)) (fun t9 => some (t9)) J' a0 b1 x) n ((0 : Int)))
def laws_eqDeed_k0 (n : Nat)  (a0 : SDeed) (b1 : SDeed) : Option Bool :=
  (bif (!(decide (a0.Owner = b1.Owner))) then some (false) else (bif (!(decide (a0.Many = b1.Many))) then some (false) else (bif (!(decide (a0.Value = b1.Value))) then some (false) else (bif (!(decide (a0.Rate = b1.Rate))) then some (false) else (bif (!(decide (a0.New = b1.New))) then some (false) else some (true))))))
def laws_eqDeed (n : Nat) (a0 : SDeed) (b1 : SDeed) : Option Bool :=
  (bif (!(decide (a0.Kind = b1.Kind))) then some (false) else (bif (!(decide (a0.Id = b1.Id))) then some (false) else laws_eqDeed_k0 n  a0 b1))
def laws_eqDeedS_L4 {R : Type} (n : Nat) (kx0 : Option R) (kxr : Bool → Option R) (J : Int → Option R) (a1 : List SDeed) (b2 : List SDeed) (i3 : Int) : Option R :=
  (bif (decide (i3 < (a1.length : Int))) then ix i3 a1.length ((bd (a1.getD i3.toNat dSDeed) fun (e9 : SDeed) => ix i3 b2.length ((bd (b2.getD i3.toNat dSDeed) fun (e10 : SDeed) => (laws_eqDeed n e9 e10).bind fun r11 => (bif (!r11) then kxr false else J (w64 (i3 + (1 : Int)))))))) else kx0)
def laws_eqDeedS (n : Nat) (a0 : List SDeed) (b1 : List SDeed) : Option Bool :=
  (bif (!(decide ((a0.length : Int) = (b1.length : Int)))) then some (false) else loopN (fun (x : Int) J' => laws_eqDeedS_L4 n (some (true)) (fun t15 => some (t15)) J' a0 b1 x) n ((0 : Int)))
def laws_markLotS_k0 {R : Type} (n : Nat) (kx0 : Int → List SLot → Option R) (J : Int → Int → List SLot → Option R) (k4 : Int) (i5 : Int) (p6 : List SLot) : Option R :=
  ix i5 p6.length (chk (decide (i5.toNat < p6.length)) ((bd (p6.getD i5.toNat dSLot) fun (e7 : SLot) => (bd (p6.set i5.toNat (⟨k4, e7.Owner, e7.Many, e7.Value, e7.Rate, e7.State, e7.Bond⟩ : SLot)) fun (l8 : List SLot) => ix i5 l8.length (chk (decide (i5.toNat < l8.length)) ((bd (l8.getD i5.toNat dSLot) fun (e9 : SLot) => (bd (l8.set i5.toNat (⟨e9.Id, (w64 (k4 + (1 : Int))), e9.Many, e9.Value, e9.Rate, e9.State, e9.Bond⟩ : SLot)) fun (l10 : List SLot) => (bd (w64 ((w64 (k4 + (1 : Int))) + (1 : Int))) fun (v11 : Int) => ix i5 l10.length (chk (decide (i5.toNat < l10.length)) ((bd (l10.getD i5.toNat dSLot) fun (e12 : SLot) => (bd (l10.set i5.toNat (⟨e12.Id, e12.Owner, v11, e12.Value, e12.Rate, e12.State, e12.Bond⟩ : SLot)) fun (l13 : List SLot) => ix i5 l13.length (chk (decide (i5.toNat < l13.length)) ((bd (l13.getD i5.toNat dSLot) fun (e14 : SLot) => (bd (l13.set i5.toNat (⟨e14.Id, e14.Owner, e14.Many, (w64 (v11 + (1 : Int))), e14.Rate, e14.State, e14.Bond⟩ : SLot)) fun (l15 : List SLot) => (bd (w64 ((w64 (v11 + (1 : Int))) + (1 : Int))) fun (v16 : Int) => ix i5 l15.length (chk (decide (i5.toNat < l15.length)) ((bd (l15.getD i5.toNat dSLot) fun (e17 : SLot) => (bd (l15.set i5.toNat (⟨e17.Id, e17.Owner, e17.Many, e17.Value, v16, e17.State, e17.Bond⟩ : SLot)) fun (l18 : List SLot) => ix i5 l18.length (chk (decide (i5.toNat < l18.length)) ((bd (l18.getD i5.toNat dSLot) fun (e19 : SLot) => (bd (l18.set i5.toNat (⟨e19.Id, e19.Owner, e19.Many, e19.Value, e19.Rate, (w64 (v16 + (1 : Int))), e19.Bond⟩ : SLot)) fun (l20 : List SLot) => (bd (w64 ((w64 (v16 + (1 : Int))) + (1 : Int))) fun (v21 : Int) => ix i5 l20.length (chk (decide (i5.toNat < l20.length)) ((bd (l20.getD i5.toNat dSLot) fun (e22 : SLot) => (bd (l20.set i5.toNat (⟨e22.Id, e22.Owner, e22.Many, e22.Value, e22.Rate, e22.State, v21⟩ : SLot)) fun (l23 : List SLot) => J (w64 (v21 + (1 : Int))) (w64 (i5 + (1 : Int))) l23)))))))))))))))))))))))))))))))
def laws_markLotS_L2 {R : Type} (n : Nat) (kx0 : Int → List SLot → Option R) (J : Int → Int → List SLot → Option R) (k1 : Int) (i2 : Int) (p3 : List SLot) : Option R :=
  (bif (decide (i2 < (p3.length : Int))) then laws_markLotS_k0 n kx0 J k1 i2 p3 else kx0 k1 p3)
def laws_markLotS (n : Nat) (a0 : List SLot) (k1 : Int) : Option (Int × List SLot) :=
  loopN (fun (x : Int × Int × List SLot) J' => laws_markLotS_L2 n (fun k24 p25 => some (k24, p25)) (fun k26 i27 p28 => J' (k26, i27, p28)) x.1 x.2.1 x.2.2) n (k1, (0 : Int), a0)
def laws_markTraderS_k0 {R : Type} (n : Nat) (kx0 : Int → List STrader → Option R) (J : Int → Int → List STrader → Option R) (k4 : Int) (i5 : Int) (p6 : List STrader) : Option R :=
  ix i5 p6.length (chk (decide (i5.toNat < p6.length)) ((bd (p6.getD i5.toNat dSTrader) fun (e7 : STrader) => (bd (p6.set i5.toNat (⟨k4, e7.Bond, e7.Bound⟩ : STrader)) fun (l8 : List STrader) => ix i5 l8.length (chk (decide (i5.toNat < l8.length)) ((bd (l8.getD i5.toNat dSTrader) fun (e9 : STrader) => (bd (l8.set i5.toNat (⟨e9.Money, (w64 (k4 + (1 : Int))), e9.Bound⟩ : STrader)) fun (l10 : List STrader) => (bd (w64 ((w64 (k4 + (1 : Int))) + (1 : Int))) fun (v11 : Int) => ix i5 l10.length (chk (decide (i5.toNat < l10.length)) ((bd (l10.getD i5.toNat dSTrader) fun (e12 : STrader) => (bd (l10.set i5.toNat (⟨e12.Money, e12.Bond, v11⟩ : STrader)) fun (l13 : List STrader) => J (w64 (v11 + (1 : Int))) (w64 (i5 + (1 : Int))) l13)))))))))))))
def laws_markTraderS_L2 {R : Type} (n : Nat) (kx0 : Int → List STrader → Option R) (J : Int → Int → List STrader → Option R) (k1 : Int) (i2 : Int) (p3 : List STrader) : Option R :=
  (bif (decide (i2 < (p3.length : Int))) then laws_markTraderS_k0 n kx0 J k1 i2 p3 else kx0 k1 p3)
def laws_markTraderS (n : Nat) (a0 : List STrader) (k1 : Int) : Option (Int × List STrader) :=
  loopN (fun (x : Int × Int × List STrader) J' => laws_markTraderS_L2 n (fun k14 p15 => some (k14, p15)) (fun k16 i17 p18 => J' (k16, i17, p18)) x.1 x.2.1 x.2.2) n (k1, (0 : Int), a0)
def laws_markHouse (n : Nat) (a0 : SHouse) (k1 : Int) : Option (Int × List SLot × List STrader) :=
  (laws_markLotS n a0.Lots k1).bind fun r1 => (laws_markTraderS n a0.Traders r1.1).bind fun r2 => some (r2.1, r1.2, r2.2)
def laws_markDeedS_k0 {R : Type} (n : Nat) (kx0 : Int → List SDeed → Option R) (J : Int → Int → List SDeed → Option R) (k4 : Int) (i5 : Int) (p6 : List SDeed) : Option R :=
  ix i5 p6.length (chk (decide (i5.toNat < p6.length)) ((bd (p6.getD i5.toNat dSDeed) fun (e7 : SDeed) => (bd (p6.set i5.toNat (⟨k4, e7.Id, e7.Owner, e7.Many, e7.Value, e7.Rate, e7.New⟩ : SDeed)) fun (l8 : List SDeed) => ix i5 l8.length (chk (decide (i5.toNat < l8.length)) ((bd (l8.getD i5.toNat dSDeed) fun (e9 : SDeed) => (bd (l8.set i5.toNat (⟨e9.Kind, (w64 (k4 + (1 : Int))), e9.Owner, e9.Many, e9.Value, e9.Rate, e9.New⟩ : SDeed)) fun (l10 : List SDeed) => (bd (w64 ((w64 (k4 + (1 : Int))) + (1 : Int))) fun (v11 : Int) => ix i5 l10.length (chk (decide (i5.toNat < l10.length)) ((bd (l10.getD i5.toNat dSDeed) fun (e12 : SDeed) => (bd (l10.set i5.toNat (⟨e12.Kind, e12.Id, v11, e12.Many, e12.Value, e12.Rate, e12.New⟩ : SDeed)) fun (l13 : List SDeed) => ix i5 l13.length (chk (decide (i5.toNat < l13.length)) ((bd (l13.getD i5.toNat dSDeed) fun (e14 : SDeed) => (bd (l13.set i5.toNat (⟨e14.Kind, e14.Id, e14.Owner, (w64 (v11 + (1 : Int))), e14.Value, e14.Rate, e14.New⟩ : SDeed)) fun (l15 : List SDeed) => (bd (w64 ((w64 (v11 + (1 : Int))) + (1 : Int))) fun (v16 : Int) => ix i5 l15.length (chk (decide (i5.toNat < l15.length)) ((bd (l15.getD i5.toNat dSDeed) fun (e17 : SDeed) => (bd (l15.set i5.toNat (⟨e17.Kind, e17.Id, e17.Owner, e17.Many, v16, e17.Rate, e17.New⟩ : SDeed)) fun (l18 : List SDeed) => ix i5 l18.length (chk (decide (i5.toNat < l18.length)) ((bd (l18.getD i5.toNat dSDeed) fun (e19 : SDeed) => (bd (l18.set i5.toNat (⟨e19.Kind, e19.Id, e19.Owner, e19.Many, e19.Value, (w64 (v16 + (1 : Int))), e19.New⟩ : SDeed)) fun (l20 : List SDeed) => (bd (w64 ((w64 (v16 + (1 : Int))) + (1 : Int))) fun (v21 : Int) => ix i5 l20.length (chk (decide (i5.toNat < l20.length)) ((bd (l20.getD i5.toNat dSDeed) fun (e22 : SDeed) => (bd (l20.set i5.toNat (⟨e22.Kind, e22.Id, e22.Owner, e22.Many, e22.Value, e22.Rate, v21⟩ : SDeed)) fun (l23 : List SDeed) => J (w64 (v21 + (1 : Int))) (w64 (i5 + (1 : Int))) l23)))))))))))))))))))))))))))))))
def laws_markDeedS_L2 {R : Type} (n : Nat) (kx0 : Int → List SDeed → Option R) (J : Int → Int → List SDeed → Option R) (k1 : Int) (i2 : Int) (p3 : List SDeed) : Option R :=
  (bif (decide (i2 < (p3.length : Int))) then laws_markDeedS_k0 n kx0 J k1 i2 p3 else kx0 k1 p3)
def laws_markDeedS (n : Nat) (a0 : List SDeed) (k1 : Int) : Option (Int × List SDeed) :=
  loopN (fun (x : Int × Int × List SDeed) J' => laws_markDeedS_L2 n (fun k24 p25 => some (k24, p25)) (fun k26 i27 p28 => J' (k26, i27, p28)) x.1 x.2.1 x.2.2) n (k1, (0 : Int), a0)
def laws_markIntS_L2 {R : Type} (n : Nat) (kx0 : Int → List Int → Option R) (J : Int → Int → List Int → Option R) (k1 : Int) (i2 : Int) (p3 : List Int) : Option R :=
  (bif (decide (i2 < (p3.length : Int))) then ix i2 p3.length (chk (decide (i2.toNat < p3.length)) (J (w64 (k1 + (1 : Int))) (w64 (i2 + (1 : Int))) (p3.set i2.toNat k1))) else kx0 k1 p3)
def laws_markIntS (n : Nat) (a0 : List Int) (k1 : Int) : Option (Int × List Int) :=
  loopN (fun (x : Int × Int × List Int) J' => laws_markIntS_L2 n (fun k7 p8 => some (k7, p8)) (fun k9 i10 p11 => J' (k9, i10, p11)) x.1 x.2.1 x.2.2) n (k1, (0 : Int), a0)
def laws_heldLotS_k0 {R : Type} (n : Nat) (kx0 : Int → Option R) (kxr : Int → Option R) (J : Int → Int → Option R) (a1 : List SLot) (k19 : Int) (i20 : Int) : Option R :=
  ix i20 a1.length ((bd (a1.getD i20.toNat dSLot) fun (e21 : SLot) => (bif (!(decide (e21.State = (w64 (k19 + (1 : Int)))))) then kxr (-1 : Int) else (bd (w64 ((w64 (k19 + (1 : Int))) + (1 : Int))) fun (v32 : Int) => ix i20 a1.length ((bd (a1.getD i20.toNat dSLot) fun (e33 : SLot) => (bif (!(decide (e33.Bond = v32))) then kxr (-1 : Int) else J (w64 (v32 + (1 : Int))) (w64 (i20 + (1 : Int))))))))))
def laws_heldLotS_k1 {R : Type} (n : Nat) (kx0 : Int → Option R) (kxr : Int → Option R) (J : Int → Int → Option R) (a1 : List SLot) (k13 : Int) (i14 : Int) : Option R :=
  ix i14 a1.length ((bd (a1.getD i14.toNat dSLot) fun (e15 : SLot) => (bif (!(decide (e15.Value = (w64 (k13 + (1 : Int)))))) then kxr (-1 : Int) else (bd (w64 ((w64 (k13 + (1 : Int))) + (1 : Int))) fun (v38 : Int) => ix i14 a1.length ((bd (a1.getD i14.toNat dSLot) fun (e39 : SLot) => (bif (!(decide (e39.Rate = v38))) then kxr (-1 : Int) else laws_heldLotS_k0 n kx0 kxr J a1 v38 i14)))))))
def laws_heldLotS_k2 {R : Type} (n : Nat) (kx0 : Int → Option R) (kxr : Int → Option R) (J : Int → Int → Option R) (a1 : List SLot) (k7 : Int) (i8 : Int) : Option R :=
  ix i8 a1.length ((bd (a1.getD i8.toNat dSLot) fun (e9 : SLot) => (bif (!(decide (e9.Owner = (w64 (k7 + (1 : Int)))))) then kxr (-1 : Int) else (bd (w64 ((w64 (k7 + (1 : Int))) + (1 : Int))) fun (v42 : Int) => ix i8 a1.length ((bd (a1.getD i8.toNat dSLot) fun (e43 : SLot) => (bif (!(decide (e43.Many = v42))) then kxr (-1 : Int) else laws_heldLotS_k1 n kx0 kxr J a1 v42 i8)))))))
def laws_heldLotS_L2 {R : Type} (n : Nat) (kx0 : Int → Option R) (kxr : Int → Option R) (J : Int → Int → Option R) (a1 : List SLot) (k2 : Int) (i3 : Int) : Option R :=
  (bif (decide (i3 < (a1.length : Int))) then ix i3 a1.length ((bd (a1.getD i3.toNat dSLot) fun (e46 : SLot) => (bif (!(decide (e46.Id = k2))) then kxr (-1 : Int) else laws_heldLotS_k2 n kx0 kxr J a1 k2 i3))) else kx0 k2)
def laws_heldLotS (n : Nat) (a0 : List SLot) (k1 : Int) : Option Int :=
  loopN (fun (x : Int × Int) J' => laws_heldLotS_L2 n (fun k49 => some (k49)) (fun t50 => some (t50)) (fun k51 i52 => J' (k51, i52)) a0 x.1 x.2) n (k1, (0 : Int))
def laws_heldTraderS_k0 {R : Type} (n : Nat) (kx0 : Int → Option R) (kxr : Int → Option R) (J : Int → Int → Option R) (a1 : List STrader) (k7 : Int) (i8 : Int) : Option R :=
  ix i8 a1.length ((bd (a1.getD i8.toNat dSTrader) fun (e9 : STrader) => (bif (!(decide (e9.Bond = (w64 (k7 + (1 : Int)))))) then kxr (-1 : Int) else (bd (w64 ((w64 (k7 + (1 : Int))) + (1 : Int))) fun (v20 : Int) => ix i8 a1.length ((bd (a1.getD i8.toNat dSTrader) fun (e21 : STrader) => (bif (!(decide (e21.Bound = v20))) then kxr (-1 : Int) else J (w64 (v20 + (1 : Int))) (w64 (i8 + (1 : Int))))))))))
def laws_heldTraderS_L2 {R : Type} (n : Nat) (kx0 : Int → Option R) (kxr : Int → Option R) (J : Int → Int → Option R) (a1 : List STrader) (k2 : Int) (i3 : Int) : Option R :=
  (bif (decide (i3 < (a1.length : Int))) then ix i3 a1.length ((bd (a1.getD i3.toNat dSTrader) fun (e26 : STrader) => (bif (!(decide (e26.Money = k2))) then kxr (-1 : Int) else laws_heldTraderS_k0 n kx0 kxr J a1 k2 i3))) else kx0 k2)
def laws_heldTraderS (n : Nat) (a0 : List STrader) (k1 : Int) : Option Int :=
  loopN (fun (x : Int × Int) J' => laws_heldTraderS_L2 n (fun k29 => some (k29)) (fun t30 => some (t30)) (fun k31 i32 => J' (k31, i32)) a0 x.1 x.2) n (k1, (0 : Int))
def laws_heldHouse (n : Nat) (a0 : SHouse) (k1 : Int) : Option Int :=
  (laws_heldLotS n a0.Lots k1).bind fun r1 => (bif (decide (r1 < (0 : Int))) then some ((-1 : Int)) else (laws_heldTraderS n a0.Traders r1).bind fun r5 => (bif (decide (r5 < (0 : Int))) then some ((-1 : Int)) else some (r5)))
def laws_heldIntS_L2 {R : Type} (n : Nat) (kx0 : Int → Option R) (kxr : Int → Option R) (J : Int → Int → Option R) (a1 : List Int) (k2 : Int) (i3 : Int) : Option R :=
  (bif (decide (i3 < (a1.length : Int))) then ix i3 a1.length ((bif (!(decide ((a1.getD i3.toNat (0 : Int)) = k2))) then kxr (-1 : Int) else J (w64 (k2 + (1 : Int))) (w64 (i3 + (1 : Int))))) else kx0 k2)
def laws_heldIntS (n : Nat) (a0 : List Int) (k1 : Int) : Option Int :=
  loopN (fun (x : Int × Int) J' => laws_heldIntS_L2 n (fun k16 => some (k16)) (fun t17 => some (t17)) (fun k18 i19 => J' (k18, i19)) a0 x.1 x.2) n (k1, (0 : Int))
def laws_FnExactRunDeeds_k0 (n : Nat)  (m163 : Int) (g0164 : Int) (t165 : List SLot) (t166 : List STrader) (t167 : List Int) : Option Bool :=
  (laws_heldHouse n (⟨t165, t166, g0164⟩ : SHouse) (1 : Int)).bind fun r168 => (bif (decide (r168 < (0 : Int))) then some (false) else (laws_heldIntS n t167 r168).bind fun r175 => (bif (decide (r175 < (0 : Int))) then some (false) else (bif (!(decide (r175 = m163))) then some (false) else some (true))))
def laws_FnExactRunDeeds_k1 (n : Nat)  (aList1 : List SDeed) (m138 : Int) (aH0 : SHouse) (w0139 : Int) (t140 : List SLot) (t141 : List STrader) (t142 : List Int) (g0143 : Int) (t144 : List SLot) (t145 : List STrader) (t146 : List Int) : Option Bool :=
  (laws_toHouse n aH0).bind fun r147 => (laws_toDeedS n aList1).bind fun r148 => (impl_RunDeeds n r147 r148).bind fun r149 => (laws_eqHouse n r149.1 (⟨t140, t141, w0139⟩ : SHouse)).bind fun r150 => (bif (!r150) then some (false) else (laws_eqIntS n r149.2 t142).bind fun r156 => (bif (!r156) then some (false) else laws_FnExactRunDeeds_k0 n  m138 g0143 t144 t145 t146))
def laws_FnExactRunDeeds_k2 (n : Nat)  (aList1 : List SDeed) (aH0 : SHouse) (w0106 : Int) (t107 : List SLot) (t108 : List STrader) (t109 : List Int) (g0110 : Int) (t111 : List SLot) (t112 : List STrader) (t113 : List Int) : Option Bool :=
  (laws_markHouse n (⟨t111, t112, g0110⟩ : SHouse) (1 : Int)).bind fun r114 => (laws_markIntS n t113 r114.1).bind fun r115 => (laws_heldHouse n (⟨r114.2.1, r114.2.2, g0110⟩ : SHouse) (1 : Int)).bind fun r116 => (bif (decide (r116 < (0 : Int))) then some (false) else (laws_heldIntS n r115.2 r116).bind fun r192 => (bif (decide (r192 < (0 : Int))) then some (false) else (bif (!(decide (r192 = r115.1))) then some (false) else laws_FnExactRunDeeds_k1 n  aList1 r115.1 aH0 w0106 t107 t108 t109 g0110 r114.2.1 r114.2.2 r115.2)))
def laws_FnExactRunDeeds_k3 (n : Nat)  (aList1 : List SDeed) (aH0 : SHouse) (w065 : Int) (t66 : List SLot) (t67 : List STrader) (t68 : List Int) (x069 : Int) (t70 : List SLot) (t71 : List STrader) (t72 : List SDeed) (g073 : Int) (t74 : List SLot) (t75 : List STrader) (t76 : List Int) : Option Bool :=
  (laws_markHouse n (⟨t70, t71, x069⟩ : SHouse) (1 : Int)).bind fun r77 => (laws_markDeedS n t72 r77.1).bind fun r78 => (bif (decide (r78.1 < (0 : Int))) then some (false) else (laws_eqHouse n (⟨t74, t75, g073⟩ : SHouse) (⟨t66, t67, w065⟩ : SHouse)).bind fun r87 => (bif (!r87) then some (false) else (laws_eqIntS n t76 t68).bind fun r96 => (bif (!r96) then some (false) else laws_FnExactRunDeeds_k2 n  aList1 aH0 w065 t66 t67 t68 g073 t74 t75 t76)))
def laws_FnExactRunDeeds_k4 (n : Nat)  (aList1 : List SDeed) (aH0 : SHouse) (w037 : Int) (t38 : List SLot) (t39 : List STrader) (t40 : List Int) (x041 : Int) (t42 : List SLot) (t43 : List STrader) (t44 : List SDeed) (g045 : Int) (t46 : List SLot) (t47 : List STrader) (t48 : List Int) : Option Bool :=
  (laws_toHouse n aH0).bind fun r49 => (laws_eqHouse n (⟨t42, t43, x041⟩ : SHouse) r49).bind fun r50 => (bif (!r50) then some (false) else (laws_toDeedS n aList1).bind fun r220 => (laws_eqDeedS n t44 r220).bind fun r221 => (bif (!r221) then some (false) else laws_FnExactRunDeeds_k3 n  aList1 aH0 w037 t38 t39 t40 x041 t42 t43 t44 g045 t46 t47 t48))
def laws_FnExactRunDeeds_k5 (n : Nat)  (aList1 : List SDeed) (aH0 : SHouse) : Option Bool :=
  (laws_toHouse n aH0).bind fun r4 => (laws_toDeedS n aList1).bind fun r5 => (spec_RunDeeds n r4 r5).bind fun r6 => (laws_toHouse n aH0).bind fun r7 => (laws_toDeedS n aList1).bind fun r8 => (impl_RunDeeds n r7 r8).bind fun r9 => (laws_eqHouse n r9.1 r6.1).bind fun r10 => (bif (!r10) then some (false) else (laws_eqIntS n r9.2 r6.2).bind fun r23 => (bif (!r23) then some (false) else laws_FnExactRunDeeds_k4 n  aList1 aH0 r6.1.Taken r6.1.Lots r6.1.Traders r6.2 r7.Taken r7.Lots r7.Traders r8 r9.1.Taken r9.1.Lots r9.1.Traders r9.2))
def laws_FnExactRunDeeds (n : Nat) (aH0 : SHouse) (aList1 : List SDeed) : Option Bool :=
  (laws_szHouse n aH0 (1048576 : Int)).bind fun r1 => (bif (decide (r1 < (0 : Int))) then some (true) else (laws_szDeedS n aList1 r1).bind fun r246 => (bif (decide (r246 < (0 : Int))) then some (true) else laws_FnExactRunDeeds_k5 n  aList1 aH0))
def rng (a b x : Int) : Prop := a ≤ x ∧ x ≤ b
def wfSLot (x : SLot) : Prop := rng (-9223372036854775808) 9223372036854775807 x.Id ∧ rng (-9223372036854775808) 9223372036854775807 x.Owner ∧ rng (-9223372036854775808) 9223372036854775807 x.Many ∧ rng (-9223372036854775808) 9223372036854775807 x.Value ∧ rng (-9223372036854775808) 9223372036854775807 x.Rate ∧ rng (-9223372036854775808) 9223372036854775807 x.State ∧ rng (-9223372036854775808) 9223372036854775807 x.Bond
def wfSTrader (x : STrader) : Prop := rng (-9223372036854775808) 9223372036854775807 x.Money ∧ rng (-9223372036854775808) 9223372036854775807 x.Bond ∧ rng (-9223372036854775808) 9223372036854775807 x.Bound
def wfSHouse (x : SHouse) : Prop := (x.Lots.length ≤ 9223372036854775807 ∧ ∀ y ∈ x.Lots, wfSLot y) ∧ (x.Traders.length ≤ 9223372036854775807 ∧ ∀ y ∈ x.Traders, wfSTrader y) ∧ rng (-9223372036854775808) 9223372036854775807 x.Taken
def wfSDeed (x : SDeed) : Prop := rng (-9223372036854775808) 9223372036854775807 x.Kind ∧ rng (-9223372036854775808) 9223372036854775807 x.Id ∧ rng (-9223372036854775808) 9223372036854775807 x.Owner ∧ rng (-9223372036854775808) 9223372036854775807 x.Many ∧ rng (-9223372036854775808) 9223372036854775807 x.Value ∧ rng (-9223372036854775808) 9223372036854775807 x.Rate ∧ rng (-9223372036854775808) 9223372036854775807 x.New
end Go.Sm

section
set_option linter.unusedSimpArgs false
set_option linter.deprecated false
set_option linter.unusedSectionVars false
set_option linter.unusedVariables false
namespace Go.Sm
/-! ### Of the words that printed functions are made of -/
theorem w64_id {x : Int} (h1 : -9223372036854775808 ≤ x) (h2 : x ≤ 9223372036854775807) : w64 x = x := by
  show (let m := x % (2 ^ 64 : Int); if (true && decide ((2 : Int) ^ 63 ≤ m)) = true then m - 2 ^ 64 else m) = x
  simp only [Bool.true_and, decide_eq_true_eq]
  split <;> omega
theorem w64_rng (x : Int) : -9223372036854775808 ≤ w64 x ∧ w64 x ≤ 9223372036854775807 := by
  show -9223372036854775808 ≤ (let m := x % (2 ^ 64 : Int); if (true && decide ((2 : Int) ^ 63 ≤ m)) = true then m - 2 ^ 64 else m) ∧ (let m := x % (2 ^ 64 : Int); if (true && decide ((2 : Int) ^ 63 ≤ m)) = true then m - 2 ^ 64 else m) ≤ 9223372036854775807
  simp only [Bool.true_and, decide_eq_true_eq]
  split <;> omega
theorem chk_of {R : Type} {b : Bool} {x : Option R} (h : b = true) : chk b x = x := by rw [h]; rfl
theorem chk_true {R : Type} {x : Option R} : chk true x = x := rfl
theorem chk_dec {R : Type} {p : Prop} [Decidable p] {x : Option R} (h : p) : chk (decide p) x = x := chk_of (decide_eq_true h)
theorem ix_of {R : Type} {i : Int} {len : Nat} {x : Option R} (h0 : 0 ≤ i) (h1 : i < (len : Int)) : ix i len x = x := by
  unfold ix
  rw [decide_eq_true h0, decide_eq_true h1]
  rfl
theorem ix_nat {R : Type} {i len : Nat} {x : Option R} (h1 : i < len) : ix (i : Int) len x = x := ix_of (by omega) (by omega)
theorem bif_dec {α : Type} {p : Prop} [Decidable p] {x y : α} : (bif decide p then x else y) = if p then x else y := by
  by_cases h : p <;> simp [h]
theorem bif_not {α : Type} {b : Bool} {x y : α} : (bif !b then x else y) = bif b then y else x := by cases b <;> rfl
theorem bif_and {α : Type} {a b : Bool} {x y : α} : (bif a && b then x else y) = bif a then (bif b then x else y) else y := by cases a <;> rfl
theorem loopN_succ {X R : Type} (b : X → (X → Option R) → Option R) (m : Nat) (x : X) : loopN b (m + 1) x = b x (loopN b m) := rfl
/-- What holds of a loop: by what is left to go. -/
theorem loopN_ind {X R : Type} {b : X → (X → Option R) → Option R} (μ : X → Nat) (I : X → Prop) (Q : X → Option R → Prop)
    (h : ∀ x J, I x → (∀ y, I y → μ y < μ x → Q y (J y)) → Q x (b x J)) : ∀ n x, I x → μ x < n → Q x (loopN b n x)
  | 0, x, hi, hm => absurd hm (Nat.not_lt_zero _)
  | n + 1, x, hi, hm => h x (loopN b n) hi fun y hy hl => loopN_ind μ I Q h n y hy (by omega)
theorem getD_eq {α : Type} {l : List α} {i : Nat} {d : α} (h : i < l.length) : l.getD i d = l[i] := by
  simp [List.getD, h]
theorem w64_succ {k : Nat} (h : k < 9223372036854775807) : w64 ((k : Int) + 1) = ((k + 1 : Nat) : Int) := by
  rw [w64_id (by omega) (by omega)]
  rfl
theorem take_succ_getD {α : Type} {l : List α} {i : Nat} {d : α} (h : i < l.length) : l.take (i + 1) = l.take i ++ [l.getD i d] := by
  rw [List.take_succ, getD_eq h, List.getElem?_eq_getElem h]
  rfl
theorem drop_getD {α : Type} {l : List α} {i : Nat} {d : α} (h : i < l.length) : l.drop i = l.getD i d :: l.drop (i + 1) := by
  rw [getD_eq h]
  exact List.drop_eq_getElem_cons h
theorem bd_eq {α β : Type} (e : α) (f : α → β) : bd e f = f e := rfl
theorem bd_set {α β : Type} {Q : β → Prop} {F : List α → β} {p : List α} {i : Nat} {x : α} (h : ∀ l : List α, l.length = p.length → Q (F l)) : Q (bd (p.set i x) F) := h _ (by simp)
theorem bd_is {α β : Type} {Q : β → Prop} {F : α → β} {e : α} (h : ∀ v : α, v = e → Q (F v)) : Q (bd e F) := h _ rfl
theorem bd_val {α β : Type} {Q : β → Prop} {F : α → β} {e : α} (h : ∀ v : α, Q (F v)) : Q (bd e F) := h _
theorem chk_q {R : Type} {Q : Option R → Prop} {b : Bool} {x : Option R} (h : b = true) (hx : Q x) : Q (chk b x) := by rw [chk_of h]; exact hx
theorem ix_q {R : Type} {Q : Option R → Prop} {i : Int} {len : Nat} {x : Option R} (h0 : 0 ≤ i) (h1 : i < (len : Int)) (hx : Q x) : Q (ix i len x) := by rw [ix_of h0 h1]; exact hx
theorem bd_upd {α β : Type} {Q : β → Prop} {F : List α → β} {p : List α} {i : Nat} {x d : α} (hi : i < p.length) (h : ∀ l : List α, l.length = p.length → l.getD i d = x → (∀ j, j ≠ i → l.getD j d = p.getD j d) → Q (F l)) : Q (bd (p.set i x) F) :=
  h _ (by simp) (by simp [List.getD, hi]) (fun j hj => by simp [List.getD, List.getElem?_set, Ne.symm hj])
/-- A list written from the front. -/
theorem set_take {α : Type} {a : List α} {d : α} {m k : Nat} (h : k < a.length) (hm : m = a.length := by rfl) : (a.take k ++ (List.replicate m d).drop k).set k (a.getD k d) = a.take (k + 1) ++ (List.replicate m d).drop (k + 1) := by
  subst hm
  have h1 : (a.take k).length = k := by simp; omega
  rw [List.set_append_right _ _ (by omega), h1, Nat.sub_self, take_succ_getD h, List.append_assoc]
  congr 1
  rw [List.drop_eq_getElem_cons (by simp; exact h)]
  rfl
/-! ### Loops over 0 .. len, by what is left -/
/-- Steps k, k+1, .. told one after the other; J: what comes behind a step. -/
def forK {S R : Type} (step : Nat → S → (S → Option R) → Option R) (fin : S → Option R) : Nat → Nat → S → Option R
  | 0, _, s => fin s
  | m + 1, k, s => step k s fun s' => forK step fin m (k + 1) s'
theorem loop_forK {X S R : Type} {b : X → (X → Option R) → Option R} {enc : Nat → S → X} {len : Nat} {step : Nat → S → (S → Option R) → Option R} {fin : S → Option R} (I : Nat → S → Prop)
    (hstep : ∀ k s J J', k < len → I k s → (∀ s', I (k + 1) s' → J (enc (k + 1) s') = J' s') → b (enc k s) J = step k s J') (hfin : ∀ s J, I len s → b (enc len s) J = fin s) :
    ∀ m k s n, k + m = len → m < n → I k s → loopN b n (enc k s) = forK step fin m k s
  | 0, k, s, 0, _, h, _ => absurd h (Nat.lt_irrefl _)
  | 0, k, s, n + 1, hk, _, hi => by
    have hk : k = len := by omega
    subst hk
    exact hfin s _ hi
  | m + 1, k, s, 0, _, h, _ => absurd h (Nat.not_lt_zero _)
  | m + 1, k, s, n + 1, hk, hn, hi => by
    show b (enc k s) (loopN b n) = step k s fun s' => forK step fin m (k + 1) s'
    exact hstep k s _ _ (by omega) hi fun s' hi' => loop_forK I hstep hfin m (k + 1) s' n (by omega) (by omega) hi'
/-- The first k at which f answers; at none: z. -/
def scanK {R : Type} (f : Nat → Option (Option R)) (z : Option R) : Nat → Nat → Option R
  | 0, _ => z
  | m + 1, k => match f k with
    | some r => r
    | none => scanK f z m (k + 1)
theorem loop_scan {X R : Type} {b : X → (X → Option R) → Option R} {enc : Nat → X} {len : Nat} {f : Nat → Option (Option R)} {z : Option R}
    (hstep : ∀ k J, k < len → b (enc k) J = match f k with | some r => r | none => J (enc (k + 1))) (hfin : ∀ J, b (enc len) J = z) :
    ∀ m k n, k + m = len → m < n → loopN b n (enc k) = scanK f z m k
  | 0, k, 0, _, h => absurd h (Nat.lt_irrefl _)
  | 0, k, n + 1, hk, _ => by
    have hk : k = len := by omega
    subst hk
    exact hfin _
  | m + 1, k, 0, _, h => absurd h (Nat.not_lt_zero _)
  | m + 1, k, n + 1, hk, hn => by
    show b (enc k) (loopN b n) = _
    rw [hstep k _ (by omega)]
    unfold scanK
    cases f k with
    | some r => rfl
    | none => exact loop_scan hstep hfin m (k + 1) n (by omega) (by omega)
/-- Is p so of all of k, .. k + m - 1? -/
theorem scan_all {R : Type} {p : Nat → Bool} {r z : Option R} : ∀ m k, scanK (fun k => bif p k then none else some r) z m k = bif (List.range' k m).all p then z else r
  | 0, k => rfl
  | m + 1, k => by
    rw [scanK, List.range'_succ, List.all_cons]
    cases h : p k with
    | true => simp only [cond_true, Bool.true_and]; exact scan_all m (k + 1)
    | false => rfl
theorem scan_any {R : Type} {p : Nat → Bool} {r z : Option R} : ∀ m k, scanK (fun k => bif p k then some r else none) z m k = bif (List.range' k m).any p then r else z
  | 0, k => rfl
  | m + 1, k => by
    rw [scanK, List.range'_succ, List.any_cons]
    cases h : p k with
    | false => simp only [cond_false, Bool.false_or]; exact scan_any m (k + 1)
    | true => rfl
theorem mgetI_mputI {β : Type} (l : List (Int × β)) (n m : Int) (v : β) : mgetI (mputI l n v) m = if m = n then some v else mgetI l m := by
  unfold mgetI mputI
  induction l with
  | nil =>
    by_cases h : m = n <;> simp [h]
  | cons a l ih =>
    rw [List.findIdx?_cons]
    by_cases h : n = a.1
    · simp only [h, decide_true, if_true, Option.elim_some, List.set_cons_zero, List.find?_cons]
      by_cases h2 : m = a.1
      · simp [h2]
      · simp [h2]
    · simp only [h, decide_false, Bool.false_eq_true, if_false]
      cases hf : l.findIdx? (fun e => decide (n = e.1)) with
      | none =>
        rw [hf] at ih
        simp only [Option.elim_none] at ih
        simp only [Option.map_none, Option.elim_none, List.cons_append, List.find?_cons]
        by_cases h2 : m = a.1
        · have : m ≠ n := fun e => h (e ▸ h2)
          simp [h2]
          simp [h2] at this
          simp [this]
        · simp only [h2, decide_false]
          exact ih
      | some i =>
        rw [hf] at ih
        simp only [Option.elim_some] at ih
        simp only [Option.map_some, Option.elim_some, List.set_cons_succ, List.find?_cons]
        by_cases h2 : m = a.1
        · have : m ≠ n := fun e => h (e ▸ h2)
          simp [h2]
          simp [h2] at this
          simp [this]
        · simp only [h2, decide_false]
          exact ih
theorem mgetI_nil {β : Type} (m : Int) : mgetI ([] : List (Int × β)) m = none := rfl
/-! ### Chains of tests -/
theorem bif_and' {α : Type} {a b : Bool} {x y : α} : (bif a then (bif b then x else y) else y) = bif a && b then x else y := by cases a <;> rfl
theorem bif_or' {α : Type} {a b : Bool} {x y : α} : (bif a then y else (bif b then x else y)) = bif !a && b then x else y := by cases a <;> rfl
theorem bif_and2 {α : Type} {a b : Bool} {x y : α} : (bif a then (bif b then y else x) else y) = bif a && !b then x else y := by cases a <;> cases b <;> rfl
theorem bif_or2 {α : Type} {a b : Bool} {x y : α} : (bif a then y else (bif b then y else x)) = bif !a && !b then x else y := by cases a <;> cases b <;> rfl
theorem bif_some {α β : Type} {a : Bool} {x y : α} {f : α → Option β} : (bif a then some x else some y).bind f = bif a then f x else f y := by cases a <;> rfl
theorem bif_tf {a : Bool} : (bif a then some true else some false) = some a := by cases a <;> rfl
theorem bif_ft {a : Bool} : (bif a then some false else some true) = some (!a) := by cases a <;> rfl
theorem bif_sf {a b : Bool} : (bif a then some b else some false) = some (a && b) := by cases a <;> rfl
theorem all_range_succ {p : Nat → Bool} {k : Nat} : (List.range (k + 1)).all p = ((List.range k).all p && p k) := by
  rw [List.range_succ, List.all_append]
  simp
theorem any_range_succ {p : Nat → Bool} {k : Nat} : (List.range (k + 1)).any p = ((List.range k).any p || p k) := by
  rw [List.range_succ, List.any_append]
  simp
theorem all_range_not {p : Nat → Bool} {k m : Nat} (hk : k < m) (h : p k = false) : (List.range m).all p = false := by
  rw [Bool.eq_false_iff]
  intro e
  rw [List.all_eq_true] at e
  rw [e k (List.mem_range.2 hk)] at h
  cases h
theorem any_range_of {p : Nat → Bool} {k m : Nat} (hk : k < m) (h : p k = true) : (List.range m).any p = true := by
  rw [List.any_eq_true]
  exact ⟨k, List.mem_range.2 hk, h⟩
/-- A loop that looks at k = 0, 1, .. and leaves at the first that is not so. -/
theorem loop_all {R : Type} {b : Int → (Int → Option R) → Option R} {len : Nat} {p : Nat → Bool} {no yes : Option R} (hlen : len ≤ 9223372036854775807)
    (hstep : ∀ (k : Nat) (J : Int → Option R), k < len → (∀ j, j < k → p j = true) → b (k : Int) J = bif p k then J ((k + 1 : Nat) : Int) else no) (hfin : ∀ J, (∀ j, j < len → p j = true) → b (len : Int) J = yes) {n : Nat} (hn : len < n) :
    loopN b n (0 : Int) = bif (List.range len).all p then yes else no := by
  refine loopN_ind (fun x => len - x.toNat) (fun x => ∃ k : Nat, k ≤ len ∧ x = (k : Int) ∧ (List.range k).all p = true) (fun x r => r = bif (List.range len).all p then yes else no) ?_ n _ ⟨0, by omega, rfl, rfl⟩ (by simp; omega)
  rintro _ J ⟨k, hk, rfl, hb⟩ ih
  have hb' : ∀ j, j < k → p j = true := fun j hj => List.all_eq_true.1 hb j (List.mem_range.2 hj)
  by_cases h : k < len
  · rw [hstep k J h hb']
    cases hp : p k with
    | true => exact ih _ ⟨k + 1, h, rfl, by rw [all_range_succ, hb, hp]; rfl⟩ (by simp; omega)
    | false => rw [all_range_not h hp]; rfl
  · have : k = len := by omega
    subst this
    rw [hfin _ hb', hb]
    rfl
/-- The same, a state turned on the way (its invariant: I). -/
theorem loop_allS {S R : Type} {X : Type} {enc : Int → S → X} {b : X → (X → Option R) → Option R} {len : Nat} {p : Nat → Bool} {I : Nat → S → Prop} {no yes : Option R}
    (hstep : ∀ (k : Nat) (s : S) (J : X → Option R), k < len → I k s → (∀ j, j < k → p j = true) → ∃ s', (p k = true → I (k + 1) s') ∧ b (enc (k : Int) s) J = bif p k then J (enc ((k + 1 : Nat) : Int) s') else no) (hfin : ∀ s J, I len s → (∀ j, j < len → p j = true) → b (enc (len : Int) s) J = yes) {n : Nat} (hn : len < n) {s0 : S} (h0 : I 0 s0) :
    loopN b n (enc (0 : Int) s0) = bif (List.range len).all p then yes else no := by
  have key : ∀ m (k : Nat) (s : S) n, k + m = len → m < n → I k s → (List.range k).all p = true → loopN b n (enc (k : Int) s) = bif (List.range len).all p then yes else no := by
    intro m
    induction m with
    | zero =>
      intro k s n hk hn hi hb
      have hb' : ∀ j, j < k → p j = true := fun j hj => List.all_eq_true.1 hb j (List.mem_range.2 hj)
      have hk : k = len := by omega
      subst hk
      cases n with
      | zero => omega
      | succ n => rw [loopN_succ, hfin s _ hi hb', hb]; rfl
    | succ m ih =>
      intro k s n hk hn hi hb
      have hb' : ∀ j, j < k → p j = true := fun j hj => List.all_eq_true.1 hb j (List.mem_range.2 hj)
      cases n with
      | zero => omega
      | succ n =>
        rw [loopN_succ]
        obtain ⟨s', h1, h2⟩ := hstep k s (loopN b n) (by omega) hi hb'
        rw [h2]
        cases hp : p k with
        | true => exact ih (k + 1) s' n (by omega) (by omega) (h1 hp) (by rw [all_range_succ, hb, hp]; rfl)
        | false => rw [all_range_not (by omega : k < len) hp]; rfl
  exact key len 0 s0 n (by omega) hn h0 rfl
/-- A loop over 0 .. len that never leaves early; its state: I. -/
theorem loop_runS {S R : Type} {X : Type} {enc : Int → S → X} {b : X → (X → Option R) → Option R} {len : Nat} {I : Nat → S → Prop} {Q : Option R → Prop}
    (hstep : ∀ (k : Nat) (s : S) (J : X → Option R), k < len → I k s → ∃ s', I (k + 1) s' ∧ b (enc (k : Int) s) J = J (enc ((k + 1 : Nat) : Int) s')) (hfin : ∀ s J, I len s → Q (b (enc (len : Int) s) J)) {n : Nat} (hn : len < n) {s0 : S} (h0 : I 0 s0) :
    Q (loopN b n (enc (0 : Int) s0)) := by
  have key : ∀ m (k : Nat) (s : S) n, k + m = len → m < n → I k s → Q (loopN b n (enc (k : Int) s)) := by
    intro m
    induction m with
    | zero =>
      intro k s n hk hn hi
      have hk : k = len := by omega
      subst hk
      cases n with
      | zero => omega
      | succ n => rw [loopN_succ]; exact hfin s _ hi
    | succ m ih =>
      intro k s n hk hn hi
      cases n with
      | zero => omega
      | succ n =>
        rw [loopN_succ]
        obtain ⟨s', h1, h2⟩ := hstep k s (loopN b n) (by omega) hi
        rw [h2]
        exact ih (k + 1) s' n (by omega) (by omega) h1
  exact key len 0 s0 n (by omega) hn h0
/-! ### Sums over lists -/
def sumOf {α : Type} (f : α → Nat) : List α → Nat
  | [] => 0
  | a :: l => f a + sumOf f l
theorem sumOf_append {α : Type} (f : α → Nat) : ∀ a b : List α, sumOf f (a ++ b) = sumOf f a + sumOf f b
  | [], b => by simp [sumOf]
  | x :: a, b => by simp only [List.cons_append, sumOf, sumOf_append f a b]; omega
theorem sumOf_take_succ {α : Type} {f : α → Nat} {l : List α} {k : Nat} {d : α} (h : k < l.length) : sumOf f (l.take (k + 1)) = sumOf f (l.take k) + f (l.getD k d) := by
  rw [take_succ_getD (d := d) h, sumOf_append]
  simp [sumOf]
theorem sumOf_take_le {α : Type} (f : α → Nat) (l : List α) (k : Nat) : sumOf f (l.take k) ≤ sumOf f l := by
  have := sumOf_append f (l.take k) (l.drop k)
  rw [List.take_append_drop] at this
  omega
theorem sumOf_mem {α : Type} {f : α → Nat} {l : List α} {k : Nat} {d : α} (h : k < l.length) : f (l.getD k d) ≤ sumOf f l := by
  have h1 := sumOf_take_succ (f := f) (d := d) h
  have h2 := sumOf_take_le f l (k + 1)
  omega
theorem sumOf_lin {α : Type} {f g : α → Nat} {c s : Nat} (h : ∀ y, f y ≤ c * g y + s) : ∀ l : List α, sumOf f l ≤ c * sumOf g l + s * l.length
  | [] => by simp [sumOf]
  | a :: l => by
    have h1 := h a
    have h2 := sumOf_lin h l
    simp only [sumOf, List.length_cons, Nat.mul_add, Nat.mul_succ]
    omega
theorem sumOf_const {α : Type} (c : Nat) : ∀ l : List α, sumOf (fun _ => c) l = c * l.length
  | [] => by simp [sumOf]
  | a :: l => by simp only [sumOf, sumOf_const c l, List.length_cons, Nat.mul_succ]; omega
theorem getD_set {α : Type} {l : List α} {k : Nat} {x d : α} (h : k < l.length) : (l.set k x).getD k d = x := by simp [List.getD, h]
theorem getD_set_ne {α : Type} {l : List α} {k j : Nat} {x d : α} (h : j ≠ k) : (l.set k x).getD j d = l.getD j d := by simp [List.getD, List.getElem?_set, Ne.symm h]
theorem getD_mem {α : Type} {l : List α} {k : Nat} {d : α} (h : k < l.length) : l.getD k d ∈ l := by rw [getD_eq h]; exact List.getElem_mem h
theorem take_drop_set {α : Type} {a : List α} {d : α} {m k : Nat} {x : α} (h : k < a.length) (hm : m = a.length) (hx : x = a.getD k d) : (a.take k ++ (List.replicate m d).drop k).set k x = a.take (k + 1) ++ (List.replicate m d).drop (k + 1) := by
  subst hx
  exact set_take h hm
/-! ### The first that is so -/
def idxOf (p : Nat → Bool) (m : Nat) : Int := match (List.range m).find? p with
  | some k => (k : Int)
  | none => -1
theorem find_range_none {p : Nat → Bool} {m : Nat} (h : ∀ j, j < m → p j = false) : (List.range m).find? p = none := by
  rw [List.find?_eq_none]
  intro x hx
  rw [h x (List.mem_range.1 hx)]
  simp
theorem find_range_some {p : Nat → Bool} {m k : Nat} (hk : k < m) (hp : p k = true) (h : ∀ j, j < k → p j = false) : (List.range m).find? p = some k := by
  have e : m = k + (m - k) := by omega
  rw [e, List.range_add, List.find?_append, find_range_none h, Option.none_or]
  obtain ⟨r, hr⟩ : ∃ r, m - k = r + 1 := ⟨m - k - 1, by omega⟩
  rw [hr, List.range_succ_eq_map]
  simp [hp]
theorem idxOf_ge (p : Nat → Bool) (m : Nat) : decide (idxOf p m ≥ 0) = (List.range m).any p := by
  unfold idxOf
  cases h : (List.range m).find? p with
  | none =>
    rw [List.find?_eq_none] at h
    rw [show (List.range m).any p = false from by rw [List.any_eq_false]; exact h]
    rfl
  | some k =>
    have h1 := List.find?_some h
    rw [show (List.range m).any p = true from List.any_eq_true.2 ⟨k, List.mem_of_find?_eq_some h, h1⟩]
    exact decide_eq_true (by show (0 : Int) ≤ (k : Int); omega)
theorem idxOf_lt (p : Nat → Bool) (m : Nat) : decide (idxOf p m < 0) = !(List.range m).any p := by
  rw [← idxOf_ge]
  by_cases h : idxOf p m < 0
  · rw [decide_eq_true h, decide_eq_false (by omega)]; rfl
  · rw [decide_eq_false h, decide_eq_true (by omega)]; rfl
theorem find_range (p : Nat → Bool) : ∀ m, ((List.range m).find? p = none ∧ ∀ j, j < m → p j = false) ∨ ∃ k, (List.range m).find? p = some k ∧ k < m ∧ p k = true ∧ ∀ j, j < k → p j = false
  | 0 => .inl ⟨rfl, fun j hj => absurd hj (Nat.not_lt_zero _)⟩
  | m + 1 => by
    rcases find_range p m with ⟨h1, h2⟩ | ⟨k, h1, h2, h3, h4⟩
    · cases hp : p m with
      | true => exact .inr ⟨m, find_range_some (by omega) hp h2, by omega, hp, h2⟩
      | false =>
        have : ∀ j, j < m + 1 → p j = false := fun j hj => by
          by_cases e : j = m
          · rw [e]; exact hp
          · exact h2 j (by omega)
        exact .inl ⟨find_range_none this, this⟩
    · exact .inr ⟨k, find_range_some (by omega) h3 h4, by omega, h3, h4⟩
theorem idxOf_spec (p : Nat → Bool) (m : Nat) : (idxOf p m = -1 ∧ ∀ j, j < m → p j = false) ∨ ∃ k : Nat, idxOf p m = (k : Int) ∧ k < m ∧ p k = true ∧ ∀ j, j < k → p j = false := by
  unfold idxOf
  rcases find_range p m with ⟨h1, h2⟩ | ⟨k, h1, h2, h3, h4⟩
  · rw [h1]; exact .inl ⟨rfl, h2⟩
  · rw [h1]; exact .inr ⟨k, rfl, h2, h3, h4⟩
/-- A loop that looks at k = 0, 1, .. and leaves at the first that is so. -/
theorem loop_find {R : Type} {b : Int → (Int → Option R) → Option R} {len : Nat} {p : Nat → Bool} {yes : Nat → Option R} {no : Option R} (hlen : len ≤ 9223372036854775807)
    (hstep : ∀ (k : Nat) (J : Int → Option R), k < len → (∀ j, j < k → p j = false) → b (k : Int) J = bif p k then yes k else J ((k + 1 : Nat) : Int)) (hfin : ∀ J, (∀ j, j < len → p j = false) → b (len : Int) J = no) {n : Nat} (hn : len < n) :
    loopN b n (0 : Int) = match (List.range len).find? p with | some k => yes k | none => no := by
  refine loopN_ind (fun x => len - x.toNat) (fun x => ∃ k : Nat, k ≤ len ∧ x = (k : Int) ∧ ∀ j, j < k → p j = false) (fun x r => r = match (List.range len).find? p with | some k => yes k | none => no) ?_ n _ ⟨0, by omega, rfl, fun j hj => absurd hj (Nat.not_lt_zero _)⟩ (by simp; omega)
  rintro _ J ⟨k, hk, rfl, hb⟩ ih
  by_cases h : k < len
  · rw [hstep k J h hb]
    cases hp : p k with
    | false => exact ih _ ⟨k + 1, h, rfl, fun j hj => by
        by_cases e : j = k
        · rw [e]; exact hp
        · exact hb j (by omega)⟩ (by simp; omega)
    | true => rw [find_range_some h hp hb]; rfl
  · have : k = len := by omega
    subst this
    rw [hfin _ hb, find_range_none hb]
theorem loop_idx {b : Int → (Int → Option Int) → Option Int} {len : Nat} {p : Nat → Bool} (hlen : len ≤ 9223372036854775807)
    (hstep : ∀ (k : Nat) (J : Int → Option Int), k < len → (∀ j, j < k → p j = false) → b (k : Int) J = bif p k then some (k : Int) else J ((k + 1 : Nat) : Int)) (hfin : ∀ J, (∀ j, j < len → p j = false) → b (len : Int) J = some (-1)) {n : Nat} (hn : len < n) :
    loopN b n (0 : Int) = some (idxOf p len) := by
  rw [loop_find (yes := fun k => some (k : Int)) (no := some (-1)) hlen hstep hfin hn]
  unfold idxOf
  cases (List.range len).find? p <;> rfl
theorem byteAt_rng (s : ByteArray) (k : Nat) : 0 ≤ byteAt s k ∧ byteAt s k ≤ 255 := by
  unfold byteAt
  have := (s.data.getD k 0).toNat_lt
  omega
theorem range_any {α : Type} {l : List α} {d : α} {f : α → Bool} : (List.range l.length).any (fun k => f (l.getD k d)) = l.any f := by
  induction l with
  | nil => rfl
  | cons a l ih =>
    rw [List.length_cons, List.range_succ_eq_map, List.any_cons, List.any_map, List.any_cons, ← ih]
    rfl
theorem range_all {α : Type} {l : List α} {d : α} {f : α → Bool} : (List.range l.length).all (fun k => f (l.getD k d)) = l.all f := by
  induction l with
  | nil => rfl
  | cons a l ih =>
    rw [List.length_cons, List.range_succ_eq_map, List.all_cons, List.all_map, List.all_cons, ← ih]
    rfl
theorem all_congr_lt {p q : Nat → Bool} {m : Nat} (h : ∀ k, k < m → p k = q k) : (List.range m).all p = (List.range m).all q := by
  rw [Bool.eq_iff_iff, List.all_eq_true, List.all_eq_true]
  constructor
  · intro g x hx; rw [← h x (List.mem_range.1 hx)]; exact g x hx
  · intro g x hx; rw [h x (List.mem_range.1 hx)]; exact g x hx
theorem any_congr_lt {p q : Nat → Bool} {m : Nat} (h : ∀ k, k < m → p k = q k) : (List.range m).any p = (List.range m).any q := by
  rw [Bool.eq_iff_iff, List.any_eq_true, List.any_eq_true]
  constructor
  · rintro ⟨x, hx, g⟩; exact ⟨x, hx, by rw [← h x (List.mem_range.1 hx)]; exact g⟩
  · rintro ⟨x, hx, g⟩; exact ⟨x, hx, by rw [h x (List.mem_range.1 hx)]; exact g⟩
theorem guard_sz {w : Nat} {x : Option Bool} (h : w ≤ 1048576 → x = some true) : (bif decide ((if (w : Int) ≤ 1048576 then 1048576 - (w : Int) else -1) < 0) then some true else x) = some true := by
  by_cases c : (w : Int) ≤ 1048576
  · rw [if_pos c, decide_eq_false (by omega), cond_false]
    exact h (by omega)
  · rw [if_neg c]
    rfl
end Go.Sm
end

section
set_option linter.unusedSimpArgs false
set_option linter.deprecated false
set_option linter.unusedSectionVars false
set_option linter.unusedVariables false
set_option linter.unusedSimpArgs false
namespace Go.Sm
attribute [local irreducible] bd chk ix loopN
def w_LSLot (a : List SLot) : Nat := a.length
theorem laws_szLotS_ok {n : Nat} (a : List SLot) {left : Int} (h : (a.length ≤ 9223372036854775807 ∧ ∀ y ∈ a, wfSLot y)) (h0 : 0 ≤ left) (h1 : left ≤ 1048576) (hn : 1000000000 < n) : laws_szLotS n a left = some (if (w_LSLot a : Int) ≤ left then left - (w_LSLot a : Int) else -1) := by
  have hw : w_LSLot a = a.length := rfl
  unfold laws_szLotS
  rw [w64_id (by have := h.1; omega) (by omega), bd_eq, bif_dec]
  by_cases c : (a.length : Int) ≤ left
  · rw [if_neg (by omega), if_pos (by omega)]
    congr 1
  · rw [if_pos (by omega), if_neg (by omega)]
def w_LSTrader (a : List STrader) : Nat := a.length
theorem laws_szTraderS_ok {n : Nat} (a : List STrader) {left : Int} (h : (a.length ≤ 9223372036854775807 ∧ ∀ y ∈ a, wfSTrader y)) (h0 : 0 ≤ left) (h1 : left ≤ 1048576) (hn : 1000000000 < n) : laws_szTraderS n a left = some (if (w_LSTrader a : Int) ≤ left then left - (w_LSTrader a : Int) else -1) := by
  have hw : w_LSTrader a = a.length := rfl
  unfold laws_szTraderS
  rw [w64_id (by have := h.1; omega) (by omega), bd_eq, bif_dec]
  by_cases c : (a.length : Int) ≤ left
  · rw [if_neg (by omega), if_pos (by omega)]
    congr 1
  · rw [if_pos (by omega), if_neg (by omega)]
def w_SHouse (a : SHouse) : Nat := w_LSLot a.Lots + w_LSTrader a.Traders
theorem laws_szHouse_ok {n : Nat} (a : SHouse) {left : Int} (h : wfSHouse a) (h0 : 0 ≤ left) (h1 : left ≤ 1048576) (hn : 1000000000 < n) : laws_szHouse n a left = some (if (w_SHouse a : Int) ≤ left then left - (w_SHouse a : Int) else -1) := by
  have hw : w_SHouse a = w_LSLot a.Lots + w_LSTrader a.Traders := rfl
  unfold laws_szHouse
  rw [laws_szLotS_ok (n := n) a.Lots h.1 (by omega) (by omega) hn, Option.bind_some, bif_dec]
  by_cases c0 : (w_LSLot a.Lots : Int) ≤ left
  case neg => rw [if_neg c0, if_pos (by omega), if_neg (by omega)]
  rw [if_pos c0, if_neg (by omega)]
  rw [laws_szTraderS_ok (n := n) a.Traders h.2.1 (by omega) (by omega) hn, Option.bind_some, bif_dec]
  by_cases c1 : (w_LSTrader a.Traders : Int) ≤ left - (w_LSLot a.Lots : Int)
  case neg => rw [if_neg c1, if_pos (by omega), if_neg (by omega)]
  rw [if_pos c1, if_neg (by omega)]
  rw [if_pos (by omega)]
  try (refine congrArg some ?_; omega)
def w_LSDeed (a : List SDeed) : Nat := a.length
theorem laws_szDeedS_ok {n : Nat} (a : List SDeed) {left : Int} (h : (a.length ≤ 9223372036854775807 ∧ ∀ y ∈ a, wfSDeed y)) (h0 : 0 ≤ left) (h1 : left ≤ 1048576) (hn : 1000000000 < n) : laws_szDeedS n a left = some (if (w_LSDeed a : Int) ≤ left then left - (w_LSDeed a : Int) else -1) := by
  have hw : w_LSDeed a = a.length := rfl
  unfold laws_szDeedS
  rw [w64_id (by have := h.1; omega) (by omega), bd_eq, bif_dec]
  by_cases c : (a.length : Int) ≤ left
  · rw [if_neg (by omega), if_pos (by omega)]
    congr 1
  · rw [if_pos (by omega), if_neg (by omega)]
theorem laws_toLot_ok (n : Nat) (a : SLot) : laws_toLot n a = some a := by simp [laws_toLot]
theorem laws_toLotS_ok {n : Nat} (a : List SLot) (hb : w_LSLot a ≤ 100000000) (hn : 1000000000 < n) : laws_toLotS n a = some a := by
  have hw0 : a.length ≤ 100000000 := by have hw : w_LSLot a = a.length := rfl; omega
  unfold laws_toLotS
  rw [chk_dec (by omega), chk_dec (by omega), chk_dec (by omega)]
  refine loopN_ind (fun x => a.length - x.1.toNat) (fun x => ∃ k : Nat, k ≤ a.length ∧ x = ((k : Int), a.take k ++ (List.replicate a.length dSLot).drop k)) (fun x r => r = some a) ?_ n _ ⟨0, by omega, by simp⟩ (by simp; omega)
  rintro _ J ⟨k, hk, rfl⟩ ih
  unfold laws_toLotS_L3
  dsimp only
  have hl : (a.take k ++ (List.replicate a.length dSLot).drop k).length = a.length := by simp; omega
  by_cases h : k < a.length
  · have g := ih (((k + 1 : Nat) : Int), a.take (k + 1) ++ (List.replicate a.length dSLot).drop (k + 1)) ⟨k + 1, h, rfl⟩ (by simp; omega)
    have hk2 : k < (a.take k ++ (List.replicate a.length dSLot).drop k).length := by omega
    simp only [Int.ofNat_lt, h, hk2, decide_true, cond_true, ix_nat h, ix_nat hk2, chk_of, bd_eq, Option.bind_some, Int.toNat_natCast, w64_succ (show k < 9223372036854775807 by omega), laws_toLot_ok]
    rw [take_drop_set (d := dSLot) h rfl rfl]
    exact g
  · have : k = a.length := by omega
    subst this
    simp
theorem laws_toTrader_ok (n : Nat) (a : STrader) : laws_toTrader n a = some a := by simp [laws_toTrader]
theorem laws_toTraderS_ok {n : Nat} (a : List STrader) (hb : w_LSTrader a ≤ 100000000) (hn : 1000000000 < n) : laws_toTraderS n a = some a := by
  have hw0 : a.length ≤ 100000000 := by have hw : w_LSTrader a = a.length := rfl; omega
  unfold laws_toTraderS
  rw [chk_dec (by omega), chk_dec (by omega), chk_dec (by omega)]
  refine loopN_ind (fun x => a.length - x.1.toNat) (fun x => ∃ k : Nat, k ≤ a.length ∧ x = ((k : Int), a.take k ++ (List.replicate a.length dSTrader).drop k)) (fun x r => r = some a) ?_ n _ ⟨0, by omega, by simp⟩ (by simp; omega)
  rintro _ J ⟨k, hk, rfl⟩ ih
  unfold laws_toTraderS_L3
  dsimp only
  have hl : (a.take k ++ (List.replicate a.length dSTrader).drop k).length = a.length := by simp; omega
  by_cases h : k < a.length
  · have g := ih (((k + 1 : Nat) : Int), a.take (k + 1) ++ (List.replicate a.length dSTrader).drop (k + 1)) ⟨k + 1, h, rfl⟩ (by simp; omega)
    have hk2 : k < (a.take k ++ (List.replicate a.length dSTrader).drop k).length := by omega
    simp only [Int.ofNat_lt, h, hk2, decide_true, cond_true, ix_nat h, ix_nat hk2, chk_of, bd_eq, Option.bind_some, Int.toNat_natCast, w64_succ (show k < 9223372036854775807 by omega), laws_toTrader_ok]
    rw [take_drop_set (d := dSTrader) h rfl rfl]
    exact g
  · have : k = a.length := by omega
    subst this
    simp
theorem laws_toHouse_ok {n : Nat} (a : SHouse) (h : w_SHouse a ≤ 100000000) (hn : 1000000000 < n) : laws_toHouse n a = some a := by
  have hw : w_SHouse a = w_LSLot a.Lots + w_LSTrader a.Traders := rfl
  simp [laws_toHouse, laws_toLotS_ok (n := n) a.Lots (by omega) hn, laws_toTraderS_ok (n := n) a.Traders (by omega) hn]
theorem laws_toDeed_ok (n : Nat) (a : SDeed) : laws_toDeed n a = some a := by simp [laws_toDeed]
theorem laws_toDeedS_ok {n : Nat} (a : List SDeed) (hb : w_LSDeed a ≤ 100000000) (hn : 1000000000 < n) : laws_toDeedS n a = some a := by
  have hw0 : a.length ≤ 100000000 := by have hw : w_LSDeed a = a.length := rfl; omega
  unfold laws_toDeedS
  rw [chk_dec (by omega), chk_dec (by omega), chk_dec (by omega)]
  refine loopN_ind (fun x => a.length - x.1.toNat) (fun x => ∃ k : Nat, k ≤ a.length ∧ x = ((k : Int), a.take k ++ (List.replicate a.length dSDeed).drop k)) (fun x r => r = some a) ?_ n _ ⟨0, by omega, by simp⟩ (by simp; omega)
  rintro _ J ⟨k, hk, rfl⟩ ih
  unfold laws_toDeedS_L3
  dsimp only
  have hl : (a.take k ++ (List.replicate a.length dSDeed).drop k).length = a.length := by simp; omega
  by_cases h : k < a.length
  · have g := ih (((k + 1 : Nat) : Int), a.take (k + 1) ++ (List.replicate a.length dSDeed).drop (k + 1)) ⟨k + 1, h, rfl⟩ (by simp; omega)
    have hk2 : k < (a.take k ++ (List.replicate a.length dSDeed).drop k).length := by omega
    simp only [Int.ofNat_lt, h, hk2, decide_true, cond_true, ix_nat h, ix_nat hk2, chk_of, bd_eq, Option.bind_some, Int.toNat_natCast, w64_succ (show k < 9223372036854775807 by omega), laws_toDeed_ok]
    rw [take_drop_set (d := dSDeed) h rfl rfl]
    exact g
  · have : k = a.length := by omega
    subst this
    simp
theorem laws_eqLot_ok (n : Nat) (a : SLot) : laws_eqLot n a a = some true := by simp [laws_eqLot, laws_eqLot_k0]
theorem laws_eqLotS_ok {n : Nat} (a : List SLot) (hb : w_LSLot a ≤ 100000000) (hn : 1000000000 < n) : laws_eqLotS n a a = some true := by
  have hw0 : a.length ≤ 100000000 := by have hw : w_LSLot a = a.length := rfl; omega
  unfold laws_eqLotS
  simp only [decide_true, Bool.not_true, cond_false]
  refine loopN_ind (fun x => a.length - x.toNat) (fun x => ∃ k : Nat, k ≤ a.length ∧ x = (k : Int)) (fun x r => r = some true) ?_ n _ ⟨0, by omega, rfl⟩ (by simp; omega)
  rintro _ J ⟨k, hk, rfl⟩ ih
  unfold laws_eqLotS_L4
  by_cases h : k < a.length
  · have g := ih ((k + 1 : Nat) : Int) ⟨k + 1, h, rfl⟩ (by simp; omega)
    simp only [Int.ofNat_lt, h, decide_true, cond_true, ix_nat h, Bool.not_true, cond_false, bd_eq, Option.bind_some, beq_self_eq_true, Int.toNat_natCast, w64_succ (show k < 9223372036854775807 by omega), laws_eqLot_ok]
    exact g
  · simp [h]
theorem laws_eqTrader_ok (n : Nat) (a : STrader) : laws_eqTrader n a a = some true := by simp [laws_eqTrader]
theorem laws_eqTraderS_ok {n : Nat} (a : List STrader) (hb : w_LSTrader a ≤ 100000000) (hn : 1000000000 < n) : laws_eqTraderS n a a = some true := by
  have hw0 : a.length ≤ 100000000 := by have hw : w_LSTrader a = a.length := rfl; omega
  unfold laws_eqTraderS
  simp only [decide_true, Bool.not_true, cond_false]
  refine loopN_ind (fun x => a.length - x.toNat) (fun x => ∃ k : Nat, k ≤ a.length ∧ x = (k : Int)) (fun x r => r = some true) ?_ n _ ⟨0, by omega, rfl⟩ (by simp; omega)
  rintro _ J ⟨k, hk, rfl⟩ ih
  unfold laws_eqTraderS_L4
  by_cases h : k < a.length
  · have g := ih ((k + 1 : Nat) : Int) ⟨k + 1, h, rfl⟩ (by simp; omega)
    simp only [Int.ofNat_lt, h, decide_true, cond_true, ix_nat h, Bool.not_true, cond_false, bd_eq, Option.bind_some, beq_self_eq_true, Int.toNat_natCast, w64_succ (show k < 9223372036854775807 by omega), laws_eqTrader_ok]
    exact g
  · simp [h]
theorem laws_eqHouse_ok {n : Nat} (a : SHouse) (h : w_SHouse a ≤ 100000000) (hn : 1000000000 < n) : laws_eqHouse n a a = some true := by
  have hw : w_SHouse a = w_LSLot a.Lots + w_LSTrader a.Traders := rfl
  simp [laws_eqHouse, laws_eqLotS_ok (n := n) a.Lots (by omega) hn, laws_eqTraderS_ok (n := n) a.Traders (by omega) hn]
def w_LInt (a : List Int) : Nat := a.length
theorem laws_eqIntS_ok {n : Nat} (a : List Int) (hb : w_LInt a ≤ 100000000) (hn : 1000000000 < n) : laws_eqIntS n a a = some true := by
  have hw0 : a.length ≤ 100000000 := by have hw : w_LInt a = a.length := rfl; omega
  unfold laws_eqIntS
  simp only [decide_true, Bool.not_true, cond_false]
  refine loopN_ind (fun x => a.length - x.toNat) (fun x => ∃ k : Nat, k ≤ a.length ∧ x = (k : Int)) (fun x r => r = some true) ?_ n _ ⟨0, by omega, rfl⟩ (by simp; omega)
  rintro _ J ⟨k, hk, rfl⟩ ih
  unfold laws_eqIntS_L4
  by_cases h : k < a.length
  · have g := ih ((k + 1 : Nat) : Int) ⟨k + 1, h, rfl⟩ (by simp; omega)
    simp only [Int.ofNat_lt, h, decide_true, cond_true, ix_nat h, Bool.not_true, cond_false, bd_eq, Option.bind_some, beq_self_eq_true, Int.toNat_natCast, w64_succ (show k < 9223372036854775807 by omega)]
    exact g
  · simp [h]
theorem laws_eqDeed_ok (n : Nat) (a : SDeed) : laws_eqDeed n a a = some true := by simp [laws_eqDeed, laws_eqDeed_k0]
theorem laws_eqDeedS_ok {n : Nat} (a : List SDeed) (hb : w_LSDeed a ≤ 100000000) (hn : 1000000000 < n) : laws_eqDeedS n a a = some true := by
  have hw0 : a.length ≤ 100000000 := by have hw : w_LSDeed a = a.length := rfl; omega
  unfold laws_eqDeedS
  simp only [decide_true, Bool.not_true, cond_false]
  refine loopN_ind (fun x => a.length - x.toNat) (fun x => ∃ k : Nat, k ≤ a.length ∧ x = (k : Int)) (fun x r => r = some true) ?_ n _ ⟨0, by omega, rfl⟩ (by simp; omega)
  rintro _ J ⟨k, hk, rfl⟩ ih
  unfold laws_eqDeedS_L4
  by_cases h : k < a.length
  · have g := ih ((k + 1 : Nat) : Int) ⟨k + 1, h, rfl⟩ (by simp; omega)
    simp only [Int.ofNat_lt, h, decide_true, cond_true, ix_nat h, Bool.not_true, cond_false, bd_eq, Option.bind_some, beq_self_eq_true, Int.toNat_natCast, w64_succ (show k < 9223372036854775807 by omega), laws_eqDeed_ok]
    exact g
  · simp [h]
def Mk_LSLot (n : Nat) (k : Int) (a x : SLot) : Prop := x.Id = k ∧ x.Owner = k + 1 ∧ x.Many = k + 2 ∧ x.Value = k + 3 ∧ x.Rate = k + 4 ∧ x.State = k + 5 ∧ x.Bond = k + 6
def n_LSLot (a : List SLot) : Nat := sumOf (fun y => 7) a
theorem n_LSLot_eq (a : List SLot) : n_LSLot a = 7 * a.length := sumOf_const 7 a
theorem n_LSLot_le (a : List SLot) : n_LSLot a ≤ 7 * w_LSLot a := by
  have h := n_LSLot_eq a
  have h2 : w_LSLot a = a.length := rfl
  omega
theorem laws_markLotS_i {n : Nat} (a : List SLot) (k0 : Int) (hk0 : 0 ≤ k0) (hb : k0 + ((n_LSLot a : Nat) : Int) ≤ 900000000) (hw : w_LSLot a ≤ 100000000) (hn : 1000000000 < n) :
    ∃ p : List SLot, laws_markLotS n a k0 = some (k0 + ((n_LSLot a : Nat) : Int), p) ∧ p.length = a.length ∧ ∀ i, i < a.length → Mk_LSLot n (k0 + ((sumOf (fun y => 7) (a.take i) : Nat) : Int)) (a.getD i dSLot) (p.getD i dSLot) := by
  have hw0 : a.length ≤ 100000000 := by have hw : w_LSLot a = a.length := rfl; omega
  have hnA : n_LSLot a = sumOf (fun y => 7) a := rfl
  unfold laws_markLotS
  refine loopN_ind (fun x => a.length - x.2.1.toNat) (fun x => ∃ (k : Nat) (p : List SLot), k ≤ a.length ∧ x = (k0 + ((sumOf (fun y => 7) (a.take k) : Nat) : Int), (k : Int), p) ∧ p.length = a.length ∧
      (∀ i, i < k → Mk_LSLot n (k0 + ((sumOf (fun y => 7) (a.take i) : Nat) : Int)) (a.getD i dSLot) (p.getD i dSLot)) ∧ ∀ i, k ≤ i → p.getD i dSLot = a.getD i dSLot)
    (fun x r => ∃ p : List SLot, r = some (k0 + ((n_LSLot a : Nat) : Int), p) ∧ p.length = a.length ∧ ∀ i, i < a.length → Mk_LSLot n (k0 + ((sumOf (fun y => 7) (a.take i) : Nat) : Int)) (a.getD i dSLot) (p.getD i dSLot)) ?_ n _ ⟨0, a, by omega, by simp [sumOf], rfl, by omega, fun _ _ => rfl⟩ (by simp; omega)
  rintro _ J ⟨k, p, hk, rfl, hp, hm, hrest⟩ ih
  by_cases h : k < a.length
  · have h' : k < p.length := by omega
    have s1 := sumOf_take_succ (f := fun y => 7) (d := dSLot) h
    have s2 := sumOf_take_le (fun y => 7) a (k + 1)
    try simp only at s1
    obtain ⟨kk, hkk⟩ : ∃ kk : Int, kk = k0 + ((sumOf (fun y => 7) (a.take k) : Nat) : Int) := ⟨_, rfl⟩
    have hpk := hrest k (Nat.le_refl _)
    have step : ∀ (K : Int → List SLot → Option (Int × List SLot)) (J : Int → Int → List SLot → Option (Int × List SLot)), laws_markLotS_L2 n K J kk (k : Int) p = J (kk + 7) ((k : Int) + 1) (p.set k (⟨(kk), (kk + 1), (kk + 2), (kk + 3), (kk + 4), (kk + 5), (kk + 6)⟩ : SLot)) := fun K J => by
      unfold laws_markLotS_L2
      simp (disch := omega) only [laws_markLotS_k0, Int.ofNat_lt, h', decide_true, cond_true, ix_nat h', List.length_set, chk_of, chk_true, bd_eq, getD_set h', List.set_set, hpk, Int.toNat_natCast, w64_id, Int.add_assoc, Int.reduceAdd, Option.bind_some]
    dsimp only
    rw [← hkk]
    refine (congrArg (fun z => ∃ q : List SLot, z = some (k0 + ((n_LSLot a : Nat) : Int), q) ∧ q.length = a.length ∧ ∀ i, i < a.length → Mk_LSLot n (k0 + ((sumOf (fun y => 7) (a.take i) : Nat) : Int)) (a.getD i dSLot) (q.getD i dSLot)) (step _ _)).mpr ?_
    refine ih _ ⟨k + 1, _, h, Prod.ext (by dsimp only; omega) (Prod.ext (by dsimp only; omega) rfl), by simpa using hp, fun i hi => ?_, fun i hi => ?_⟩ (by dsimp only; omega)
    · by_cases e : i = k
      · subst e
        rw [getD_set h', ← hkk]
        unfold Mk_LSLot
        exact ⟨rfl, rfl, rfl, rfl, rfl, rfl, rfl⟩
      · rw [getD_set_ne e]
        exact hm i (by omega)
    · rw [getD_set_ne (by omega)]
      exact hrest i (by omega)
  · have : k = a.length := by omega
    subst this
    unfold laws_markLotS_L2
    simp only [hp, Int.lt_irrefl, decide_false, cond_false]
    rw [List.take_length]
    exact ⟨p, rfl, hp, hm⟩
theorem laws_heldLotS_i {n : Nat} (a p : List SLot) (hp : p.length = a.length) (k0 : Int) (hk0 : 0 ≤ k0) (hb : k0 + ((n_LSLot a : Nat) : Int) ≤ 900000000) (hw : w_LSLot a ≤ 100000000) (hn : 1000000000 < n)
    (hm : ∀ i, i < a.length → Mk_LSLot n (k0 + ((sumOf (fun y => 7) (a.take i) : Nat) : Int)) (a.getD i dSLot) (p.getD i dSLot)) : laws_heldLotS n p k0 = some (k0 + ((n_LSLot a : Nat) : Int)) := by
  have hw0 : a.length ≤ 100000000 := by have hw : w_LSLot a = a.length := rfl; omega
  have hnA : n_LSLot a = sumOf (fun y => 7) a := rfl
  unfold laws_heldLotS
  refine loopN_ind (fun x => a.length - x.2.toNat) (fun x => ∃ (k : Nat), k ≤ a.length ∧ x = (k0 + ((sumOf (fun y => 7) (a.take k) : Nat) : Int), (k : Int)))
    (fun x r => r = some (k0 + ((n_LSLot a : Nat) : Int))) ?_ n _ ⟨0, by omega, by simp [sumOf]⟩ (by simp; omega)
  rintro _ J ⟨k, hk, rfl⟩ ih
  by_cases h : k < a.length
  · have h' : k < p.length := by omega
    have s1 := sumOf_take_succ (f := fun y => 7) (d := dSLot) h
    have s2 := sumOf_take_le (fun y => 7) a (k + 1)
    try simp only at s1
    have hmk := hm k h
    unfold Mk_LSLot at hmk
    obtain ⟨kk, hkk⟩ : ∃ kk : Int, kk = k0 + ((sumOf (fun y => 7) (a.take k) : Nat) : Int) := ⟨_, rfl⟩
    rw [← hkk] at hmk
    try simp (disch := omega) only [Int.add_assoc, Int.reduceAdd] at hmk
    obtain ⟨e0, e1, e2, e3, e4, e5, e6⟩ := hmk
    have step : ∀ (K K2 : Int → Option Int) (J : Int → Int → Option Int), laws_heldLotS_L2 n K K2 J p kk (k : Int) = J (kk + 7) ((k : Int) + 1) := fun K K2 J => by
      unfold laws_heldLotS_L2
      simp (disch := omega) only [laws_heldLotS_k2, laws_heldLotS_k1, laws_heldLotS_k0, Int.ofNat_lt, h', decide_true, cond_true, ix_nat h', bd_eq, Int.toNat_natCast, w64_id, Int.add_assoc, Int.reduceAdd, Option.bind_some, Bool.not_true, cond_false, beq_self_eq_true, decide_eq_false_iff_not, Int.not_lt, bif_dec, if_neg, e0, e1, e2, e3, e4, e5, e6]
    dsimp only
    rw [← hkk]
    refine (step _ _ _).trans ?_
    exact ih (_, _) ⟨k + 1, h, Prod.ext (by dsimp only; omega) (by dsimp only; omega)⟩ (by dsimp only; omega)
  · have : k = a.length := by omega
    subst this
    unfold laws_heldLotS_L2
    simp only [hp, Int.lt_irrefl, decide_false, cond_false]
    rw [List.take_length]
    rfl
theorem laws_markLotS_ok {n : Nat} (a : List SLot) (k0 : Int) (hk0 : 0 ≤ k0) (hb : k0 + ((n_LSLot a : Nat) : Int) ≤ 900000000) (hw : w_LSLot a ≤ 100000000) (hn : 1000000000 < n) : ∃ p : List SLot, laws_markLotS n a k0 = some (k0 + ((n_LSLot a : Nat) : Int), p) ∧ laws_heldLotS n p k0 = some (k0 + ((n_LSLot a : Nat) : Int)) := by
  obtain ⟨p, h1, h2, h3⟩ := laws_markLotS_i (n := n) a k0 hk0 hb hw hn
  exact ⟨p, h1, laws_heldLotS_i a p h2 k0 hk0 hb hw hn h3⟩
def Mk_LSTrader (n : Nat) (k : Int) (a x : STrader) : Prop := x.Money = k ∧ x.Bond = k + 1 ∧ x.Bound = k + 2
def n_LSTrader (a : List STrader) : Nat := sumOf (fun y => 3) a
theorem n_LSTrader_eq (a : List STrader) : n_LSTrader a = 3 * a.length := sumOf_const 3 a
theorem n_LSTrader_le (a : List STrader) : n_LSTrader a ≤ 3 * w_LSTrader a := by
  have h := n_LSTrader_eq a
  have h2 : w_LSTrader a = a.length := rfl
  omega
theorem laws_markTraderS_i {n : Nat} (a : List STrader) (k0 : Int) (hk0 : 0 ≤ k0) (hb : k0 + ((n_LSTrader a : Nat) : Int) ≤ 900000000) (hw : w_LSTrader a ≤ 100000000) (hn : 1000000000 < n) :
    ∃ p : List STrader, laws_markTraderS n a k0 = some (k0 + ((n_LSTrader a : Nat) : Int), p) ∧ p.length = a.length ∧ ∀ i, i < a.length → Mk_LSTrader n (k0 + ((sumOf (fun y => 3) (a.take i) : Nat) : Int)) (a.getD i dSTrader) (p.getD i dSTrader) := by
  have hw0 : a.length ≤ 100000000 := by have hw : w_LSTrader a = a.length := rfl; omega
  have hnA : n_LSTrader a = sumOf (fun y => 3) a := rfl
  unfold laws_markTraderS
  refine loopN_ind (fun x => a.length - x.2.1.toNat) (fun x => ∃ (k : Nat) (p : List STrader), k ≤ a.length ∧ x = (k0 + ((sumOf (fun y => 3) (a.take k) : Nat) : Int), (k : Int), p) ∧ p.length = a.length ∧
      (∀ i, i < k → Mk_LSTrader n (k0 + ((sumOf (fun y => 3) (a.take i) : Nat) : Int)) (a.getD i dSTrader) (p.getD i dSTrader)) ∧ ∀ i, k ≤ i → p.getD i dSTrader = a.getD i dSTrader)
    (fun x r => ∃ p : List STrader, r = some (k0 + ((n_LSTrader a : Nat) : Int), p) ∧ p.length = a.length ∧ ∀ i, i < a.length → Mk_LSTrader n (k0 + ((sumOf (fun y => 3) (a.take i) : Nat) : Int)) (a.getD i dSTrader) (p.getD i dSTrader)) ?_ n _ ⟨0, a, by omega, by simp [sumOf], rfl, by omega, fun _ _ => rfl⟩ (by simp; omega)
  rintro _ J ⟨k, p, hk, rfl, hp, hm, hrest⟩ ih
  by_cases h : k < a.length
  · have h' : k < p.length := by omega
    have s1 := sumOf_take_succ (f := fun y => 3) (d := dSTrader) h
    have s2 := sumOf_take_le (fun y => 3) a (k + 1)
    try simp only at s1
    obtain ⟨kk, hkk⟩ : ∃ kk : Int, kk = k0 + ((sumOf (fun y => 3) (a.take k) : Nat) : Int) := ⟨_, rfl⟩
    have hpk := hrest k (Nat.le_refl _)
    have step : ∀ (K : Int → List STrader → Option (Int × List STrader)) (J : Int → Int → List STrader → Option (Int × List STrader)), laws_markTraderS_L2 n K J kk (k : Int) p = J (kk + 3) ((k : Int) + 1) (p.set k (⟨(kk), (kk + 1), (kk + 2)⟩ : STrader)) := fun K J => by
      unfold laws_markTraderS_L2
      simp (disch := omega) only [laws_markTraderS_k0, Int.ofNat_lt, h', decide_true, cond_true, ix_nat h', List.length_set, chk_of, chk_true, bd_eq, getD_set h', List.set_set, hpk, Int.toNat_natCast, w64_id, Int.add_assoc, Int.reduceAdd, Option.bind_some]
    dsimp only
    rw [← hkk]
    refine (congrArg (fun z => ∃ q : List STrader, z = some (k0 + ((n_LSTrader a : Nat) : Int), q) ∧ q.length = a.length ∧ ∀ i, i < a.length → Mk_LSTrader n (k0 + ((sumOf (fun y => 3) (a.take i) : Nat) : Int)) (a.getD i dSTrader) (q.getD i dSTrader)) (step _ _)).mpr ?_
    refine ih _ ⟨k + 1, _, h, Prod.ext (by dsimp only; omega) (Prod.ext (by dsimp only; omega) rfl), by simpa using hp, fun i hi => ?_, fun i hi => ?_⟩ (by dsimp only; omega)
    · by_cases e : i = k
      · subst e
        rw [getD_set h', ← hkk]
        unfold Mk_LSTrader
        exact ⟨rfl, rfl, rfl⟩
      · rw [getD_set_ne e]
        exact hm i (by omega)
    · rw [getD_set_ne (by omega)]
      exact hrest i (by omega)
  · have : k = a.length := by omega
    subst this
    unfold laws_markTraderS_L2
    simp only [hp, Int.lt_irrefl, decide_false, cond_false]
    rw [List.take_length]
    exact ⟨p, rfl, hp, hm⟩
theorem laws_heldTraderS_i {n : Nat} (a p : List STrader) (hp : p.length = a.length) (k0 : Int) (hk0 : 0 ≤ k0) (hb : k0 + ((n_LSTrader a : Nat) : Int) ≤ 900000000) (hw : w_LSTrader a ≤ 100000000) (hn : 1000000000 < n)
    (hm : ∀ i, i < a.length → Mk_LSTrader n (k0 + ((sumOf (fun y => 3) (a.take i) : Nat) : Int)) (a.getD i dSTrader) (p.getD i dSTrader)) : laws_heldTraderS n p k0 = some (k0 + ((n_LSTrader a : Nat) : Int)) := by
  have hw0 : a.length ≤ 100000000 := by have hw : w_LSTrader a = a.length := rfl; omega
  have hnA : n_LSTrader a = sumOf (fun y => 3) a := rfl
  unfold laws_heldTraderS
  refine loopN_ind (fun x => a.length - x.2.toNat) (fun x => ∃ (k : Nat), k ≤ a.length ∧ x = (k0 + ((sumOf (fun y => 3) (a.take k) : Nat) : Int), (k : Int)))
    (fun x r => r = some (k0 + ((n_LSTrader a : Nat) : Int))) ?_ n _ ⟨0, by omega, by simp [sumOf]⟩ (by simp; omega)
  rintro _ J ⟨k, hk, rfl⟩ ih
  by_cases h : k < a.length
  · have h' : k < p.length := by omega
    have s1 := sumOf_take_succ (f := fun y => 3) (d := dSTrader) h
    have s2 := sumOf_take_le (fun y => 3) a (k + 1)
    try simp only at s1
    have hmk := hm k h
    unfold Mk_LSTrader at hmk
    obtain ⟨kk, hkk⟩ : ∃ kk : Int, kk = k0 + ((sumOf (fun y => 3) (a.take k) : Nat) : Int) := ⟨_, rfl⟩
    rw [← hkk] at hmk
    try simp (disch := omega) only [Int.add_assoc, Int.reduceAdd] at hmk
    obtain ⟨e0, e1, e2⟩ := hmk
    have step : ∀ (K K2 : Int → Option Int) (J : Int → Int → Option Int), laws_heldTraderS_L2 n K K2 J p kk (k : Int) = J (kk + 3) ((k : Int) + 1) := fun K K2 J => by
      unfold laws_heldTraderS_L2
      simp (disch := omega) only [laws_heldTraderS_k0, Int.ofNat_lt, h', decide_true, cond_true, ix_nat h', bd_eq, Int.toNat_natCast, w64_id, Int.add_assoc, Int.reduceAdd, Option.bind_some, Bool.not_true, cond_false, beq_self_eq_true, decide_eq_false_iff_not, Int.not_lt, bif_dec, if_neg, e0, e1, e2]
    dsimp only
    rw [← hkk]
    refine (step _ _ _).trans ?_
    exact ih (_, _) ⟨k + 1, h, Prod.ext (by dsimp only; omega) (by dsimp only; omega)⟩ (by dsimp only; omega)
  · have : k = a.length := by omega
    subst this
    unfold laws_heldTraderS_L2
    simp only [hp, Int.lt_irrefl, decide_false, cond_false]
    rw [List.take_length]
    rfl
theorem laws_markTraderS_ok {n : Nat} (a : List STrader) (k0 : Int) (hk0 : 0 ≤ k0) (hb : k0 + ((n_LSTrader a : Nat) : Int) ≤ 900000000) (hw : w_LSTrader a ≤ 100000000) (hn : 1000000000 < n) : ∃ p : List STrader, laws_markTraderS n a k0 = some (k0 + ((n_LSTrader a : Nat) : Int), p) ∧ laws_heldTraderS n p k0 = some (k0 + ((n_LSTrader a : Nat) : Int)) := by
  obtain ⟨p, h1, h2, h3⟩ := laws_markTraderS_i (n := n) a k0 hk0 hb hw hn
  exact ⟨p, h1, laws_heldTraderS_i a p h2 k0 hk0 hb hw hn h3⟩
theorem laws_markHouse_ok {n : Nat} (a : SHouse) (k0 : Int) (hk0 : 0 ≤ k0) (hb : k0 + ((n_LSLot a.Lots + n_LSTrader a.Traders : Nat) : Int) ≤ 900000000) (hw : w_SHouse a ≤ 100000000) (hn : 1000000000 < n) : ∃ w0 w1, laws_markHouse n a k0 = some (k0 + ((n_LSLot a.Lots + n_LSTrader a.Traders : Nat) : Int), w0, w1) ∧ ∀ b : SHouse, b.Lots = w0 → b.Traders = w1 → laws_heldHouse n b k0 = some (k0 + ((n_LSLot a.Lots + n_LSTrader a.Traders : Nat) : Int)) := by
  have hww : w_SHouse a = w_LSLot a.Lots + w_LSTrader a.Traders := rfl
  obtain ⟨w0, x0, y0⟩ := laws_markLotS_ok (n := n) a.Lots (k0) (by omega) (by omega) (by omega) hn
  obtain ⟨w1, x1, y1⟩ := laws_markTraderS_ok (n := n) a.Traders (k0 + (n_LSLot a.Lots : Int)) (by omega) (by omega) (by omega) hn
  refine ⟨w0, w1, ?_, fun b g0 g1 => ?_⟩
  · unfold laws_markHouse
    simp only [x0, x1, Option.bind_some]
    first | done | (congr 2; omega)
  · unfold laws_heldHouse
    rw [g0, y0, Option.bind_some, bif_dec, if_neg (by omega)]
    rw [g1, y1, Option.bind_some, bif_dec, if_neg (by omega)]
    first | done | (congr 1; omega)
def Mk_LSDeed (n : Nat) (k : Int) (a x : SDeed) : Prop := x.Kind = k ∧ x.Id = k + 1 ∧ x.Owner = k + 2 ∧ x.Many = k + 3 ∧ x.Value = k + 4 ∧ x.Rate = k + 5 ∧ x.New = k + 6
def n_LSDeed (a : List SDeed) : Nat := sumOf (fun y => 7) a
theorem n_LSDeed_eq (a : List SDeed) : n_LSDeed a = 7 * a.length := sumOf_const 7 a
theorem n_LSDeed_le (a : List SDeed) : n_LSDeed a ≤ 7 * w_LSDeed a := by
  have h := n_LSDeed_eq a
  have h2 : w_LSDeed a = a.length := rfl
  omega
theorem laws_markDeedS_i {n : Nat} (a : List SDeed) (k0 : Int) (hk0 : 0 ≤ k0) (hb : k0 + ((n_LSDeed a : Nat) : Int) ≤ 900000000) (hw : w_LSDeed a ≤ 100000000) (hn : 1000000000 < n) :
    ∃ p : List SDeed, laws_markDeedS n a k0 = some (k0 + ((n_LSDeed a : Nat) : Int), p) ∧ p.length = a.length ∧ ∀ i, i < a.length → Mk_LSDeed n (k0 + ((sumOf (fun y => 7) (a.take i) : Nat) : Int)) (a.getD i dSDeed) (p.getD i dSDeed) := by
  have hw0 : a.length ≤ 100000000 := by have hw : w_LSDeed a = a.length := rfl; omega
  have hnA : n_LSDeed a = sumOf (fun y => 7) a := rfl
  unfold laws_markDeedS
  refine loopN_ind (fun x => a.length - x.2.1.toNat) (fun x => ∃ (k : Nat) (p : List SDeed), k ≤ a.length ∧ x = (k0 + ((sumOf (fun y => 7) (a.take k) : Nat) : Int), (k : Int), p) ∧ p.length = a.length ∧
      (∀ i, i < k → Mk_LSDeed n (k0 + ((sumOf (fun y => 7) (a.take i) : Nat) : Int)) (a.getD i dSDeed) (p.getD i dSDeed)) ∧ ∀ i, k ≤ i → p.getD i dSDeed = a.getD i dSDeed)
    (fun x r => ∃ p : List SDeed, r = some (k0 + ((n_LSDeed a : Nat) : Int), p) ∧ p.length = a.length ∧ ∀ i, i < a.length → Mk_LSDeed n (k0 + ((sumOf (fun y => 7) (a.take i) : Nat) : Int)) (a.getD i dSDeed) (p.getD i dSDeed)) ?_ n _ ⟨0, a, by omega, by simp [sumOf], rfl, by omega, fun _ _ => rfl⟩ (by simp; omega)
  rintro _ J ⟨k, p, hk, rfl, hp, hm, hrest⟩ ih
  by_cases h : k < a.length
  · have h' : k < p.length := by omega
    have s1 := sumOf_take_succ (f := fun y => 7) (d := dSDeed) h
    have s2 := sumOf_take_le (fun y => 7) a (k + 1)
    try simp only at s1
    obtain ⟨kk, hkk⟩ : ∃ kk : Int, kk = k0 + ((sumOf (fun y => 7) (a.take k) : Nat) : Int) := ⟨_, rfl⟩
    have hpk := hrest k (Nat.le_refl _)
    have step : ∀ (K : Int → List SDeed → Option (Int × List SDeed)) (J : Int → Int → List SDeed → Option (Int × List SDeed)), laws_markDeedS_L2 n K J kk (k : Int) p = J (kk + 7) ((k : Int) + 1) (p.set k (⟨(kk), (kk + 1), (kk + 2), (kk + 3), (kk + 4), (kk + 5), (kk + 6)⟩ : SDeed)) := fun K J => by
      unfold laws_markDeedS_L2
      simp (disch := omega) only [laws_markDeedS_k0, Int.ofNat_lt, h', decide_true, cond_true, ix_nat h', List.length_set, chk_of, chk_true, bd_eq, getD_set h', List.set_set, hpk, Int.toNat_natCast, w64_id, Int.add_assoc, Int.reduceAdd, Option.bind_some]
    dsimp only
    rw [← hkk]
    refine (congrArg (fun z => ∃ q : List SDeed, z = some (k0 + ((n_LSDeed a : Nat) : Int), q) ∧ q.length = a.length ∧ ∀ i, i < a.length → Mk_LSDeed n (k0 + ((sumOf (fun y => 7) (a.take i) : Nat) : Int)) (a.getD i dSDeed) (q.getD i dSDeed)) (step _ _)).mpr ?_
    refine ih _ ⟨k + 1, _, h, Prod.ext (by dsimp only; omega) (Prod.ext (by dsimp only; omega) rfl), by simpa using hp, fun i hi => ?_, fun i hi => ?_⟩ (by dsimp only; omega)
    · by_cases e : i = k
      · subst e
        rw [getD_set h', ← hkk]
        unfold Mk_LSDeed
        exact ⟨rfl, rfl, rfl, rfl, rfl, rfl, rfl⟩
      · rw [getD_set_ne e]
        exact hm i (by omega)
    · rw [getD_set_ne (by omega)]
      exact hrest i (by omega)
  · have : k = a.length := by omega
    subst this
    unfold laws_markDeedS_L2
    simp only [hp, Int.lt_irrefl, decide_false, cond_false]
    rw [List.take_length]
    exact ⟨p, rfl, hp, hm⟩
theorem laws_markDeedS_ok {n : Nat} (a : List SDeed) (k0 : Int) (hk0 : 0 ≤ k0) (hb : k0 + ((n_LSDeed a : Nat) : Int) ≤ 900000000) (hw : w_LSDeed a ≤ 100000000) (hn : 1000000000 < n) : ∃ p : List SDeed, laws_markDeedS n a k0 = some (k0 + ((n_LSDeed a : Nat) : Int), p) := by
  obtain ⟨p, h1, h2, h3⟩ := laws_markDeedS_i (n := n) a k0 hk0 hb hw hn
  exact ⟨p, h1⟩
def Mk_LInt (n : Nat) (k : Int) (a x : Int) : Prop := x = k
def n_LInt (a : List Int) : Nat := sumOf (fun y => 1) a
theorem n_LInt_eq (a : List Int) : n_LInt a = 1 * a.length := sumOf_const 1 a
theorem n_LInt_le (a : List Int) : n_LInt a ≤ 1 * w_LInt a := by
  have h := n_LInt_eq a
  have h2 : w_LInt a = a.length := rfl
  omega
theorem laws_markIntS_i {n : Nat} (a : List Int) (k0 : Int) (hk0 : 0 ≤ k0) (hb : k0 + ((n_LInt a : Nat) : Int) ≤ 900000000) (hw : w_LInt a ≤ 100000000) (hn : 1000000000 < n) :
    ∃ p : List Int, laws_markIntS n a k0 = some (k0 + ((n_LInt a : Nat) : Int), p) ∧ p.length = a.length ∧ ∀ i, i < a.length → Mk_LInt n (k0 + ((sumOf (fun y => 1) (a.take i) : Nat) : Int)) (a.getD i (0 : Int)) (p.getD i (0 : Int)) := by
  have hw0 : a.length ≤ 100000000 := by have hw : w_LInt a = a.length := rfl; omega
  have hnA : n_LInt a = sumOf (fun y => 1) a := rfl
  unfold laws_markIntS
  refine loopN_ind (fun x => a.length - x.2.1.toNat) (fun x => ∃ (k : Nat) (p : List Int), k ≤ a.length ∧ x = (k0 + ((sumOf (fun y => 1) (a.take k) : Nat) : Int), (k : Int), p) ∧ p.length = a.length ∧
      (∀ i, i < k → Mk_LInt n (k0 + ((sumOf (fun y => 1) (a.take i) : Nat) : Int)) (a.getD i (0 : Int)) (p.getD i (0 : Int))) ∧ ∀ i, k ≤ i → p.getD i (0 : Int) = a.getD i (0 : Int))
    (fun x r => ∃ p : List Int, r = some (k0 + ((n_LInt a : Nat) : Int), p) ∧ p.length = a.length ∧ ∀ i, i < a.length → Mk_LInt n (k0 + ((sumOf (fun y => 1) (a.take i) : Nat) : Int)) (a.getD i (0 : Int)) (p.getD i (0 : Int))) ?_ n _ ⟨0, a, by omega, by simp [sumOf], rfl, by omega, fun _ _ => rfl⟩ (by simp; omega)
  rintro _ J ⟨k, p, hk, rfl, hp, hm, hrest⟩ ih
  by_cases h : k < a.length
  · have h' : k < p.length := by omega
    have s1 := sumOf_take_succ (f := fun y => 1) (d := (0 : Int)) h
    have s2 := sumOf_take_le (fun y => 1) a (k + 1)
    try simp only at s1
    obtain ⟨kk, hkk⟩ : ∃ kk : Int, kk = k0 + ((sumOf (fun y => 1) (a.take k) : Nat) : Int) := ⟨_, rfl⟩
    have hpk := hrest k (Nat.le_refl _)
    have step : ∀ (K : Int → List Int → Option (Int × List Int)) (J : Int → Int → List Int → Option (Int × List Int)), laws_markIntS_L2 n K J kk (k : Int) p = J (kk + 1) ((k : Int) + 1) (p.set k (kk)) := fun K J => by
      unfold laws_markIntS_L2
      simp (disch := omega) only [Int.ofNat_lt, h', decide_true, cond_true, ix_nat h', List.length_set, chk_of, chk_true, bd_eq, getD_set h', List.set_set, hpk, Int.toNat_natCast, w64_id, Int.add_assoc, Int.reduceAdd, Option.bind_some]
    dsimp only
    rw [← hkk]
    refine (congrArg (fun z => ∃ q : List Int, z = some (k0 + ((n_LInt a : Nat) : Int), q) ∧ q.length = a.length ∧ ∀ i, i < a.length → Mk_LInt n (k0 + ((sumOf (fun y => 1) (a.take i) : Nat) : Int)) (a.getD i (0 : Int)) (q.getD i (0 : Int))) (step _ _)).mpr ?_
    refine ih _ ⟨k + 1, _, h, Prod.ext (by dsimp only; omega) (Prod.ext (by dsimp only; omega) rfl), by simpa using hp, fun i hi => ?_, fun i hi => ?_⟩ (by dsimp only; omega)
    · by_cases e : i = k
      · subst e
        rw [getD_set h', ← hkk]
        unfold Mk_LInt
        exact rfl
      · rw [getD_set_ne e]
        exact hm i (by omega)
    · rw [getD_set_ne (by omega)]
      exact hrest i (by omega)
  · have : k = a.length := by omega
    subst this
    unfold laws_markIntS_L2
    simp only [hp, Int.lt_irrefl, decide_false, cond_false]
    rw [List.take_length]
    exact ⟨p, rfl, hp, hm⟩
theorem laws_heldIntS_i {n : Nat} (a p : List Int) (hp : p.length = a.length) (k0 : Int) (hk0 : 0 ≤ k0) (hb : k0 + ((n_LInt a : Nat) : Int) ≤ 900000000) (hw : w_LInt a ≤ 100000000) (hn : 1000000000 < n)
    (hm : ∀ i, i < a.length → Mk_LInt n (k0 + ((sumOf (fun y => 1) (a.take i) : Nat) : Int)) (a.getD i (0 : Int)) (p.getD i (0 : Int))) : laws_heldIntS n p k0 = some (k0 + ((n_LInt a : Nat) : Int)) := by
  have hw0 : a.length ≤ 100000000 := by have hw : w_LInt a = a.length := rfl; omega
  have hnA : n_LInt a = sumOf (fun y => 1) a := rfl
  unfold laws_heldIntS
  refine loopN_ind (fun x => a.length - x.2.toNat) (fun x => ∃ (k : Nat), k ≤ a.length ∧ x = (k0 + ((sumOf (fun y => 1) (a.take k) : Nat) : Int), (k : Int)))
    (fun x r => r = some (k0 + ((n_LInt a : Nat) : Int))) ?_ n _ ⟨0, by omega, by simp [sumOf]⟩ (by simp; omega)
  rintro _ J ⟨k, hk, rfl⟩ ih
  by_cases h : k < a.length
  · have h' : k < p.length := by omega
    have s1 := sumOf_take_succ (f := fun y => 1) (d := (0 : Int)) h
    have s2 := sumOf_take_le (fun y => 1) a (k + 1)
    try simp only at s1
    have hmk := hm k h
    unfold Mk_LInt at hmk
    obtain ⟨kk, hkk⟩ : ∃ kk : Int, kk = k0 + ((sumOf (fun y => 1) (a.take k) : Nat) : Int) := ⟨_, rfl⟩
    rw [← hkk] at hmk
    try simp (disch := omega) only [Int.add_assoc, Int.reduceAdd] at hmk
    have e0 := hmk
    have step : ∀ (K K2 : Int → Option Int) (J : Int → Int → Option Int), laws_heldIntS_L2 n K K2 J p kk (k : Int) = J (kk + 1) ((k : Int) + 1) := fun K K2 J => by
      unfold laws_heldIntS_L2
      simp (disch := omega) only [Int.ofNat_lt, h', decide_true, cond_true, ix_nat h', bd_eq, Int.toNat_natCast, w64_id, Int.add_assoc, Int.reduceAdd, Option.bind_some, Bool.not_true, cond_false, beq_self_eq_true, decide_eq_false_iff_not, Int.not_lt, bif_dec, if_neg, e0]
    dsimp only
    rw [← hkk]
    refine (step _ _ _).trans ?_
    exact ih (_, _) ⟨k + 1, h, Prod.ext (by dsimp only; omega) (by dsimp only; omega)⟩ (by dsimp only; omega)
  · have : k = a.length := by omega
    subst this
    unfold laws_heldIntS_L2
    simp only [hp, Int.lt_irrefl, decide_false, cond_false]
    rw [List.take_length]
    rfl
theorem laws_markIntS_ok {n : Nat} (a : List Int) (k0 : Int) (hk0 : 0 ≤ k0) (hb : k0 + ((n_LInt a : Nat) : Int) ≤ 900000000) (hw : w_LInt a ≤ 100000000) (hn : 1000000000 < n) : ∃ p : List Int, laws_markIntS n a k0 = some (k0 + ((n_LInt a : Nat) : Int), p) ∧ laws_heldIntS n p k0 = some (k0 + ((n_LInt a : Nat) : Int)) := by
  obtain ⟨p, h1, h2, h3⟩ := laws_markIntS_i (n := n) a k0 hk0 hb hw hn
  exact ⟨p, h1, laws_heldIntS_i a p h2 k0 hk0 hb hw hn h3⟩
end Go.Sm
end

section
set_option linter.unusedSimpArgs false
set_option linter.deprecated false
set_option linter.unusedSectionVars false
set_option linter.unusedVariables false
set_option linter.unusedSimpArgs false
namespace Go.Sm
attribute [local irreducible] bd chk ix loopN
theorem in_spec (n : Nat) (x a b : Int) : spec_l1In n x a b = some (decide (a ≤ x ∧ x ≤ b)) := by
  unfold spec_l1In
  by_cases h0 : a ≤ x <;> by_cases h1 : x ≤ b <;> simp [h0, h1]
theorem in_impl (n : Nat) (x a b : Int) : impl_in n x a b = some (decide (a ≤ x ∧ x ≤ b)) := by
  unfold impl_in
  by_cases h0 : a ≤ x <;> by_cases h1 : x ≤ b <;> simp [h0, h1]
end Go.Sm
set_option linter.unusedVariables false
set_option linter.unusedSimpArgs false
namespace Go.Sm
attribute [local irreducible] bd chk ix loopN
def rightB (x : SLot) : Bool := decide (1 ≤ x.Many ∧ x.Many ≤ 1000000) && (decide (0 ≤ x.Value ∧ x.Value ≤ 1000000) && decide (0 ≤ x.Rate ∧ x.Rate ≤ 5000))
def dutyI (x : SLot) : Int := w64 (Int.tdiv (w64 ((w64 (x.Many * x.Value)) * x.Rate)) 1000)
theorem duty_spec (n : Nat) (x : SLot) : spec_Duty6 n x.Many x.Value x.Rate = some (bif rightB x then (dutyI x, true) else (0, false)) := by
  unfold spec_Duty6 rightB dutyI
  simp only [in_spec, Option.bind_some, bd_eq]
  cases decide (1 ≤ x.Many ∧ x.Many ≤ 1000000) <;> cases decide (0 ≤ x.Value ∧ x.Value ≤ 1000000) <;> cases decide (0 ≤ x.Rate ∧ x.Rate ≤ 5000) <;> rfl
theorem right_impl (n : Nat) (x : SLot) : impl_lotRight n x.Many x.Value x.Rate = some (rightB x) := by
  unfold impl_lotRight rightB
  simp only [in_impl, Option.bind_some]
  cases decide (1 ≤ x.Many ∧ x.Many ≤ 1000000) <;> cases decide (0 ≤ x.Value ∧ x.Value ≤ 1000000) <;> cases decide (0 ≤ x.Rate ∧ x.Rate ≤ 5000) <;> rfl
theorem duty_impl (n : Nat) (x : SLot) (h : rightB x = true) : impl_Lot_duty n x = some (dutyI x) := by
  unfold impl_Lot_duty impl_Duty6
  rw [right_impl, h]
  simp only [Option.bind_some, bd_eq, Bool.not_true, cond_false]
  rfl
def addB (b : List Int) (x : SLot) : List Int := b.set x.Owner.toNat (w64 (b.getD x.Owner.toNat 0 + x.Bond))
def bnd (h : SHouse) (k : Nat) : List Int := (h.Lots.take k).foldl addB (List.replicate h.Traders.length 0)
theorem bnd_succ (h : SHouse) {k : Nat} (hk : k < h.Lots.length) : bnd h (k + 1) = addB (bnd h k) (h.Lots.getD k dSLot) := by
  unfold bnd
  rw [take_succ_getD (d := dSLot) hk, List.foldl_append]
  rfl
theorem bnd_len (h : SHouse) (k : Nat) : (bnd h k).length = h.Traders.length := by
  unfold bnd
  have : ∀ (l : List SLot) (b : List Int), (l.foldl addB b).length = b.length := by
    intro l
    induction l with
    | nil => intro b; rfl
    | cons a l ih => intro b; rw [List.foldl_cons, ih]; simp [addB]
  rw [this]
  simp
def condB (x : SLot) : Bool := bif decide (x.State = 3) then decide (x.Bond = dutyI x) else decide (x.Bond = 0)
def ownB (h : SHouse) (x : SLot) : Bool := decide (0 ≤ x.Owner ∧ x.Owner ≤ w64 ((h.Traders.length : Int) - 1))
def lotId (h : SHouse) (k : Nat) : Bool := decide (1 ≤ (h.Lots.getD k dSLot).Id ∧ (h.Lots.getD k dSLot).Id ≤ 1000000) && (decide (k = 0) || !decide ((h.Lots.getD (k - 1) dSLot).Id ≥ (h.Lots.getD k dSLot).Id))
def stateB (x : SLot) : Bool := decide (1 ≤ x.State ∧ x.State ≤ 5)
def lotB (h : SHouse) (k : Nat) : Bool := rightB (h.Lots.getD k dSLot) && (lotId h k && (ownB h (h.Lots.getD k dSLot) && (stateB (h.Lots.getD k dSLot) && condB (h.Lots.getD k dSLot))))
def trdB (h : SHouse) (k : Nat) : Bool := decide (0 ≤ (h.Traders.getD k dSTrader).Money ∧ (h.Traders.getD k dSTrader).Money ≤ 1000000000000000) && (decide (0 ≤ (h.Traders.getD k dSTrader).Bond ∧ (h.Traders.getD k dSTrader).Bond ≤ 1000000000000000) && (decide (0 ≤ (h.Traders.getD k dSTrader).Bound ∧ (h.Traders.getD k dSTrader).Bound ≤ (h.Traders.getD k dSTrader).Bond) && decide ((h.Traders.getD k dSTrader).Bound = (bnd h h.Lots.length).getD k 0)))
def houseB (h : SHouse) : Bool := decide (h.Lots.length ≤ 40) && (decide (h.Traders.length ≤ 10) && (decide (0 ≤ h.Taken ∧ h.Taken ≤ 1000000000000000) && ((List.range h.Lots.length).all (lotB h) && (List.range h.Traders.length).all (trdB h))))
section
variable {R : Type}
theorem own_lt {h : SHouse} {x : SLot} (ht : h.Traders.length ≤ 10) (ho : ownB h x = true) : 0 ≤ x.Owner ∧ x.Owner < (h.Traders.length : Int) := by
  have := of_decide_eq_true ho
  rw [w64_id (by omega) (by omega)] at this
  omega
theorem k2_spec {n : Nat} (kx0 : List Int → Option R) (kxr : Bool → Option R) (J : Int → List Int → Option R) (i : Int) (t : Bool) (h : SHouse) (b : List Int) (x : SLot) (hb : b.length = h.Traders.length) (ht : h.Traders.length ≤ 10) (ho : ownB h x = true) :
    spec_HouseOk_k2 n kx0 kxr J i (dutyI x) (!t) h b x = bif t && condB x then J (w64 (i + 1)) (addB b x) else kxr false := by
  obtain ⟨h0, h1⟩ := own_lt ht ho
  unfold spec_HouseOk_k2 condB spec_HouseOk_k0 spec_HouseOk_k1
  cases t with
  | false => rfl
  | true =>
    simp only [Bool.not_true, cond_false, Bool.true_and, ix_of h0 (show x.Owner < (b.length : Int) by omega), chk_dec (show x.Owner.toNat < b.length by omega), bd_eq]
    cases decide (x.State = 3) with
    | false =>
      simp only [Bool.not_false, cond_true, cond_false]
      by_cases e : x.Bond = 0
      · rw [decide_eq_true e]
        unfold addB
        rw [e]
        rfl
      · rw [decide_eq_false e]
        rfl
    | true =>
      simp only [Bool.not_true, cond_true, cond_false]
      by_cases e : x.Bond = dutyI x
      · rw [decide_eq_true e]
        unfold addB
        rw [e]
        rfl
      · rw [decide_eq_false e]
        rfl
theorem k1_impl {n : Nat} (kx0 : List Int → Option R) (kxr : Bool → Option R) (J : Int → List Int → Option R) (t3 : List SLot) (t4 : Int) (i : Int) (h : SHouse) (b : List Int) (x : SLot) (hb : b.length = h.Traders.length) (ht : h.Traders.length ≤ 10) (ho : ownB h x = true) (hr : rightB x = true) :
    impl_HouseOk_k1 n kx0 kxr J t3 t4 i h b x = bif condB x then J (w64 (i + 1)) (addB b x) else kxr false := by
  obtain ⟨h0, h1⟩ := own_lt ht ho
  unfold impl_HouseOk_k1 condB impl_HouseOk_k0
  simp only [duty_impl n x hr, Option.bind_some, ix_of h0 (show x.Owner < (b.length : Int) by omega), chk_dec (show x.Owner.toNat < b.length by omega), bd_eq]
  cases decide (x.State = 3) <;> cases decide (x.Bond = 0) <;> cases decide (x.Bond = dutyI x) <;> rfl
end
theorem id_impl3 (n : Nat) (x : Int) : impl_idRight n x = some (decide (1 ≤ x ∧ x ≤ 1000000)) := by
  unfold impl_idRight
  rw [in_impl]; rfl
theorem house_spec {n : Nat} (h : SHouse) (hn : 1000000000 < n) : spec_HouseOk n h = some (houseB h) := by
  unfold spec_HouseOk houseB
  by_cases h40 : h.Lots.length ≤ 40
  · by_cases h10 : h.Traders.length ≤ 10
    · rw [decide_eq_false (show ¬ (h.Lots.length : Int) > 40 by omega), decide_eq_false (show ¬ (h.Traders.length : Int) > 10 by omega), decide_eq_true h40, decide_eq_true h10, in_spec, Option.bind_some]
      simp only [cond_false, Bool.true_and]
      cases decide (0 ≤ h.Taken ∧ h.Taken ≤ 1000000000000000) with
      | false => rfl
      | true =>
        simp only [Bool.not_true, cond_false, Bool.true_and]
        unfold spec_HouseOk_k5
        rw [chk_dec (by omega), chk_dec (by omega), chk_dec (by omega), Int.toNat_natCast]
        refine (loop_allS (S := List Int) (X := Int × List Int) (enc := fun k s => (k, s)) (len := h.Lots.length) (p := lotB h)
          (I := fun k b => b = bnd h k) (no := some false) (yes := some ((List.range h.Traders.length).all (trdB h))) (fun k b J hk hi _ => ?_) (fun b J hi _ => ?_) (n := n) (by omega) (s0 := _) (by simp [bnd])).trans ?_
        · refine ⟨addB b (h.Lots.getD k dSLot), fun _ => by rw [bnd_succ h hk, hi], ?_⟩
          have hb : b.length = h.Traders.length := by rw [hi, bnd_len]
          show spec_HouseOk_L5 n _ _ _ (k : Int) h b = _
          unfold spec_HouseOk_L5 spec_HouseOk_k3 lotB lotId
          have e5 : ∀ t : Bool, ownB h (h.Lots.getD k dSLot) = true → ∀ kx0 kxr (J2 : Int → List Int → Option Bool), spec_HouseOk_k2 n kx0 kxr J2 (k : Int) (dutyI (h.Lots.getD k dSLot)) (!t) h b (h.Lots.getD k dSLot) = bif t && condB (h.Lots.getD k dSLot) then J2 (w64 ((k : Int) + 1)) (addB b (h.Lots.getD k dSLot)) else kxr false := fun t ho kx0 kxr J2 => k2_spec kx0 kxr J2 (k : Int) t h b _ hb h10 ho
          have eo : decide (0 ≤ (h.Lots.getD k dSLot).Owner ∧ (h.Lots.getD k dSLot).Owner ≤ w64 ((h.Traders.length : Int) - 1)) = ownB h (h.Lots.getD k dSLot) := rfl
          have es : decide (1 ≤ (h.Lots.getD k dSLot).State ∧ (h.Lots.getD k dSLot).State ≤ 5) = stateB (h.Lots.getD k dSLot) := rfl
          simp only [Int.ofNat_lt, hk, decide_true, cond_true, ix_nat hk, bd_eq, Int.toNat_natCast, duty_spec, in_spec, Option.bind_some, eo, es]
          cases hr : rightB (h.Lots.getD k dSLot) with
          | false => rfl
          | true =>
            simp only [cond_true, Bool.not_true, cond_false, Bool.true_and]
            cases ho : ownB h (h.Lots.getD k dSLot) with
            | false =>
              cases k with
              | zero =>
                simp only [show ¬ ((0 : Nat) : Int) > 0 by omega, decide_false, cond_false, Bool.not_false, cond_true, Bool.false_and, Bool.and_false]
                cases decide (1 ≤ (h.Lots.getD 0 dSLot).Id ∧ (h.Lots.getD 0 dSLot).Id ≤ 1000000) <;> rfl
              | succ k =>
                have e3 : w64 (((k + 1 : Nat) : Int) - 1) = (k : Int) := by rw [w64_id (by omega) (by omega)]; omega
                simp only [show ((k + 1 : Nat) : Int) > 0 by omega, decide_true, cond_true, e3, ix_nat (show k < h.Lots.length by omega), Int.toNat_natCast, Bool.not_false, Bool.false_and, Bool.and_false]
                cases decide (1 ≤ (h.Lots.getD (k + 1) dSLot).Id ∧ (h.Lots.getD (k + 1) dSLot).Id ≤ 1000000) <;> cases decide ((h.Lots.getD k dSLot).Id ≥ (h.Lots.getD (k + 1) dSLot).Id) <;> rfl
            | true =>
              cases k with
              | zero =>
                simp only [show ¬ ((0 : Nat) : Int) > 0 by omega, decide_false, cond_false, e5 _ ho, Bool.not_true, Bool.true_and, decide_true, Bool.true_or, Bool.and_true, w64_succ (show 0 < 9223372036854775807 by omega), bif_not, bif_and', Bool.and_assoc]
              | succ k =>
                have e3 : w64 (((k + 1 : Nat) : Int) - 1) = (k : Int) := by rw [w64_id (by omega) (by omega)]; omega
                simp only [show ((k + 1 : Nat) : Int) > 0 by omega, decide_true, cond_true, e3, ix_nat (show k < h.Lots.length by omega), Int.toNat_natCast, e5 _ ho, Bool.not_true, cond_false, Bool.true_and, decide_false, Nat.succ_ne_zero, Nat.add_sub_cancel, Bool.false_or, w64_succ (show k + 1 < 9223372036854775807 by omega), bif_not, bif_and', bif_or', Bool.and_assoc, Bool.not_not, Bool.not_false, Bool.true_and]
        · have hb : b.length = h.Traders.length := by rw [hi, bnd_len]
          show spec_HouseOk_L5 n _ _ _ (h.Lots.length : Int) h b = _
          unfold spec_HouseOk_L5
          simp only [Int.lt_irrefl, decide_false, cond_false]
          rw [loop_all (p := trdB h) (len := h.Traders.length) (no := some false) (yes := some true) (by omega) (fun k J hk _ => ?_) (fun J _ => ?_) (by omega)]
          · rw [bif_tf]
          · unfold spec_HouseOk_L17 spec_HouseOk_k4 trdB
            rw [← hi]
            simp only [Int.ofNat_lt, hk, decide_true, cond_true, ix_nat hk, bd_eq, Int.toNat_natCast, in_spec, Option.bind_some, ix_nat (show k < b.length by omega), chk_dec (show k < b.length by omega), w64_succ (show k < 9223372036854775807 by omega), bif_not, bif_and', Bool.and_assoc]
          · unfold spec_HouseOk_L17
            simp only [Int.lt_irrefl, decide_false, cond_false]
        · rw [bif_sf]
    · rw [decide_eq_false (show ¬ (h.Lots.length : Int) > 40 by omega), decide_eq_true (show (h.Traders.length : Int) > 10 by omega), decide_eq_false h10, Bool.false_and, Bool.and_false]
      rfl
  · rw [decide_eq_true (show (h.Lots.length : Int) > 40 by omega), decide_eq_false h40]
    rfl
theorem house_impl {n : Nat} (h : SHouse) (hn : 1000000000 < n) : impl_HouseOk n h = some (houseB h) := by
  unfold impl_HouseOk houseB
  by_cases h40 : h.Lots.length ≤ 40
  · by_cases h10 : h.Traders.length ≤ 10
    · rw [decide_eq_false (show ¬ (h.Lots.length : Int) > 40 by omega), decide_eq_false (show ¬ (h.Traders.length : Int) > 10 by omega), decide_eq_true h40, decide_eq_true h10, in_impl, Option.bind_some]
      simp only [cond_false, Bool.true_and]
      cases decide (0 ≤ h.Taken ∧ h.Taken ≤ 1000000000000000) with
      | false => rfl
      | true =>
        simp only [Bool.not_true, cond_false, Bool.true_and]
        unfold impl_HouseOk_k4
        rw [chk_dec (by omega), chk_dec (by omega), chk_dec (by omega), Int.toNat_natCast]
        refine (loop_allS (S := List Int) (X := Int × List Int) (enc := fun k s => (k, s)) (len := h.Lots.length) (p := lotB h)
          (I := fun k b => b = bnd h k) (no := some false) (yes := some ((List.range h.Traders.length).all (trdB h))) (fun k b J hk hi _ => ?_) (fun b J hi _ => ?_) (n := n) (by omega) (s0 := _) (by simp [bnd])).trans ?_
        · refine ⟨addB b (h.Lots.getD k dSLot), fun _ => by rw [bnd_succ h hk, hi], ?_⟩
          have hb : b.length = h.Traders.length := by rw [hi, bnd_len]
          show impl_HouseOk_L5 n _ _ _ h.Lots (h.Lots.length : Int) (k : Int) h b = _
          unfold impl_HouseOk_L5 impl_HouseOk_k2 lotB lotId
          have e5 : ownB h (h.Lots.getD k dSLot) = true → rightB (h.Lots.getD k dSLot) = true → ∀ kx0 kxr (J2 : Int → List Int → Option Bool), impl_HouseOk_k1 n kx0 kxr J2 h.Lots (h.Lots.length : Int) (k : Int) h b (h.Lots.getD k dSLot) = bif condB (h.Lots.getD k dSLot) then J2 (w64 ((k : Int) + 1)) (addB b (h.Lots.getD k dSLot)) else kxr false := fun ho hr kx0 kxr J2 => k1_impl kx0 kxr J2 h.Lots _ (k : Int) h b _ hb h10 ho hr
          have eo : decide (0 ≤ (h.Lots.getD k dSLot).Owner ∧ (h.Lots.getD k dSLot).Owner ≤ w64 ((h.Traders.length : Int) - 1)) = ownB h (h.Lots.getD k dSLot) := rfl
          have es : decide (1 ≤ (h.Lots.getD k dSLot).State ∧ (h.Lots.getD k dSLot).State ≤ 5) = stateB (h.Lots.getD k dSLot) := rfl
          simp only [Int.ofNat_lt, hk, decide_true, cond_true, ix_nat hk, bd_eq, Int.toNat_natCast, right_impl, id_impl3, in_impl, Option.bind_some, eo, es]
          cases ho : ownB h (h.Lots.getD k dSLot) with
          | false =>
            cases k with
            | zero =>
              simp only [show ¬ ((0 : Nat) : Int) > 0 by omega, decide_false, cond_false, Bool.not_false, cond_true, Bool.false_and, Bool.and_false]
              cases decide (1 ≤ (h.Lots.getD 0 dSLot).Id ∧ (h.Lots.getD 0 dSLot).Id ≤ 1000000) <;> rfl
            | succ k =>
              have e3 : w64 (((k + 1 : Nat) : Int) - 1) = (k : Int) := by rw [w64_id (by omega) (by omega)]; omega
              simp only [show ((k + 1 : Nat) : Int) > 0 by omega, decide_true, cond_true, e3, ix_nat (show k < h.Lots.length by omega), Int.toNat_natCast, Bool.not_false, Bool.false_and, Bool.and_false]
              cases decide (1 ≤ (h.Lots.getD (k + 1) dSLot).Id ∧ (h.Lots.getD (k + 1) dSLot).Id ≤ 1000000) <;> cases decide ((h.Lots.getD k dSLot).Id ≥ (h.Lots.getD (k + 1) dSLot).Id) <;> rfl
          | true =>
            cases hr : rightB (h.Lots.getD k dSLot) with
            | false =>
              cases k with
              | zero =>
                simp only [show ¬ ((0 : Nat) : Int) > 0 by omega, decide_false, cond_false, Bool.not_false, Bool.not_true, cond_true, Bool.false_and, Bool.and_false]
                cases decide (1 ≤ (h.Lots.getD 0 dSLot).Id ∧ (h.Lots.getD 0 dSLot).Id ≤ 1000000) <;> rfl
              | succ k =>
                have e3 : w64 (((k + 1 : Nat) : Int) - 1) = (k : Int) := by rw [w64_id (by omega) (by omega)]; omega
                simp only [show ((k + 1 : Nat) : Int) > 0 by omega, decide_true, cond_true, e3, ix_nat (show k < h.Lots.length by omega), Int.toNat_natCast, Bool.not_false, Bool.not_true, cond_false, Bool.false_and, Bool.and_false]
                cases decide (1 ≤ (h.Lots.getD (k + 1) dSLot).Id ∧ (h.Lots.getD (k + 1) dSLot).Id ≤ 1000000) <;> cases decide ((h.Lots.getD k dSLot).Id ≥ (h.Lots.getD (k + 1) dSLot).Id) <;> rfl
            | true =>
              cases k with
              | zero =>
                simp only [show ¬ ((0 : Nat) : Int) > 0 by omega, decide_false, cond_false, e5 ho hr, Bool.not_true, Bool.true_and, decide_true, Bool.true_or, Bool.and_true, w64_succ (show 0 < 9223372036854775807 by omega), bif_not, bif_and', Bool.and_assoc]
              | succ k =>
                have e3 : w64 (((k + 1 : Nat) : Int) - 1) = (k : Int) := by rw [w64_id (by omega) (by omega)]; omega
                simp only [show ((k + 1 : Nat) : Int) > 0 by omega, decide_true, cond_true, e3, ix_nat (show k < h.Lots.length by omega), Int.toNat_natCast, e5 ho hr, Bool.not_true, cond_false, Bool.true_and, decide_false, Nat.succ_ne_zero, Nat.add_sub_cancel, Bool.false_or, w64_succ (show k + 1 < 9223372036854775807 by omega), bif_not, bif_and', bif_or', Bool.and_assoc, Bool.not_not, Bool.not_false, Bool.true_and]
        · have hb : b.length = h.Traders.length := by rw [hi, bnd_len]
          show impl_HouseOk_L5 n _ _ _ h.Lots (h.Lots.length : Int) (h.Lots.length : Int) h b = _
          unfold impl_HouseOk_L5
          simp only [Int.lt_irrefl, decide_false, cond_false]
          rw [loop_all (p := trdB h) (len := h.Traders.length) (no := some false) (yes := some true) (by omega) (fun k J hk _ => ?_) (fun J _ => ?_) (by omega)]
          · rw [bif_tf]
          · unfold impl_HouseOk_L17 impl_HouseOk_k3 trdB
            rw [← hi]
            simp only [Int.ofNat_lt, hk, decide_true, cond_true, ix_nat hk, bd_eq, Int.toNat_natCast, in_impl, Option.bind_some, ix_nat (show k < b.length by omega), chk_dec (show k < b.length by omega), w64_succ (show k < 9223372036854775807 by omega), bif_not, bif_and', Bool.and_assoc]
          · unfold impl_HouseOk_L17
            simp only [Int.lt_irrefl, decide_false, cond_false]
        · rw [bif_sf]
    · rw [decide_eq_false (show ¬ (h.Lots.length : Int) > 40 by omega), decide_eq_true (show (h.Traders.length : Int) > 10 by omega), decide_eq_false h10, Bool.false_and, Bool.and_false]
      rfl
  · rw [decide_eq_true (show (h.Lots.length : Int) > 40 by omega), decide_eq_false h40]
    rfl
end Go.Sm
end

section
set_option linter.unusedSimpArgs false
set_option linter.deprecated false
set_option linter.unusedSectionVars false
set_option linter.unusedVariables false
set_option linter.unusedSimpArgs false
namespace Go.Sm
attribute [local irreducible] bd chk ix loopN
/-! ### Lots by number -/
def findB (l : List SLot) (id : Int) : Int := idxOf (fun k => decide ((l.getD k dSLot).Id = id)) l.length
theorem find_spec {n : Nat} (h : SHouse) (id : Int) (hl : h.Lots.length ≤ 1048576) (hn : 1000000000 < n) : spec_l16Find n h id = some (findB h.Lots id) := by
  unfold spec_l16Find
  refine loop_idx (len := h.Lots.length) (p := fun k => decide ((h.Lots.getD k dSLot).Id = id)) (by omega) (fun k J hk _ => ?_) (fun J _ => ?_) (by omega)
  · unfold spec_l16Find_L2
    simp only [Int.ofNat_lt, hk, decide_true, cond_true, ix_nat hk, bd_eq, Int.toNat_natCast, w64_succ (show k < 9223372036854775807 by omega)]
  · unfold spec_l16Find_L2
    simp only [Int.lt_irrefl, decide_false, cond_false]
theorem lot_impl {n : Nat} (h : SHouse) (id : Int) (hl : h.Lots.length ≤ 1048576) (hn : 1000000000 < n) : impl_House_lot n h id = some (findB h.Lots id) := by
  unfold impl_House_lot slices_IndexFunc_impl_Lot_impl_Lot__impl_House_lot_1
  rw [loop_idx (len := h.Lots.length) (p := fun k => decide ((h.Lots.getD k dSLot).Id = id)) (by omega) (fun k J hk _ => ?_) (fun J _ => ?_) (by omega)]
  · rfl
  · unfold slices_IndexFunc_impl_Lot_impl_Lot__impl_House_lot_1_L2 impl_House_lot_1
    simp only [Int.ofNat_lt, hk, decide_true, cond_true, ix_nat hk, bd_eq, Int.toNat_natCast, Option.bind_some, w64_succ (show k < 9223372036854775807 by omega)]
  · unfold slices_IndexFunc_impl_Lot_impl_Lot__impl_House_lot_1_L2
    simp only [Int.lt_irrefl, decide_false, cond_false]
def hasB (l : List SLot) (id : Int) : Bool := decide (findB l id ≥ 0) || decide ((l.length : Int) = 40)
theorem has_impl {n : Nat} (h : SHouse) (id : Int) (hl : h.Lots.length ≤ 1048576) (hn : 1000000000 < n) : impl_DoDeed_1 n id h = some (hasB h.Lots id) := by
  unfold impl_DoDeed_1 hasB
  rw [lot_impl h id hl hn, Option.bind_some]
  cases decide (findB h.Lots id ≥ 0) <;> rfl
/-! ### A lot put in its place -/
def cutN (l : List SLot) (id : Int) : Nat := (l.takeWhile fun y => decide (y.Id < id)).length
def putLot (l : List SLot) (x : SLot) : List SLot := l.take (cutN l x.Id) ++ x :: l.drop (cutN l x.Id)
theorem cutN_le (l : List SLot) (id : Int) : cutN l id ≤ l.length := by
  unfold cutN
  induction l with
  | nil => simp
  | cons a l ih =>
    rw [List.takeWhile_cons]
    split
    · simp; omega
    · simp
theorem cutN_lt (l : List SLot) (id : Int) : ∀ k, k < cutN l id → (l.getD k dSLot).Id < id := by
  unfold cutN
  induction l with
  | nil => intro k hk; simp at hk
  | cons a l ih =>
    intro k hk
    rw [List.takeWhile_cons] at hk
    split at hk
    · rename_i h
      cases k with
      | zero => simpa using h
      | succ k =>
        have := ih k (by simpa using hk)
        simpa using this
    · simp at hk
theorem cutN_ge (l : List SLot) (id : Int) (h : cutN l id < l.length) : ¬ (l.getD (cutN l id) dSLot).Id < id := by
  unfold cutN at *
  induction l with
  | nil => simp at h
  | cons a l ih =>
    rw [List.takeWhile_cons] at h ⊢
    split
    · rename_i hc
      rw [if_pos hc] at h
      have := ih (by simpa using h)
      simpa using this
    · rename_i hc
      simpa using hc
theorem with_spec {n : Nat} (h : SHouse) (x : SLot) (hl : h.Lots.length ≤ 1000000) (hn : 1000000000 < n) : spec_l16With n h x = some ⟨putLot h.Lots x, h.Traders, h.Taken⟩ := by
  unfold spec_l16With
  refine loopN_ind (fun y => h.Lots.length - y.toNat) (fun y => ∃ k : Nat, k ≤ cutN h.Lots x.Id ∧ y = (k : Int)) (fun y r => r = some (⟨putLot h.Lots x, h.Traders, h.Taken⟩ : SHouse)) ?_ n _ ⟨0, by omega, rfl⟩ (by simp; omega)
  rintro _ J ⟨k, hk, rfl⟩ ih
  have hle := cutN_le h.Lots x.Id
  have hend : k = cutN h.Lots x.Id → (chk (decide ((0 : Int) ≤ (k : Int))) (chk (decide ((k : Int) ≤ (h.Lots.length : Int))) (chk (decide (((k : Int).toNat + (h.Lots.length - (k : Int).toNat)) ≤ h.Lots.length)) ((bd ([x] ++ ((h.Lots.drop (k : Int).toNat).take (h.Lots.length - (k : Int).toNat))) fun (l15 : List SLot) => chk (decide (l15.length * 56 ≤ 140737488355328)) (chk (decide ((0 : Int) ≤ (k : Int))) (chk (decide ((k : Int) ≤ (h.Lots.length : Int))) (chk (decide ((0 + ((k : Int).toNat - 0)) ≤ h.Lots.length)) ((bd ((h.Lots.drop 0).take ((k : Int).toNat - 0)) fun (l16 : List SLot) => chk (decide (l16.length * 56 ≤ 140737488355328)) (chk (decide ((l16 ++ l15).length * 56 ≤ 140737488355328)) (some ((⟨(l16 ++ l15), h.Traders, h.Taken⟩ : SHouse)))))))))))))) = some ⟨putLot h.Lots x, h.Traders, h.Taken⟩ := fun hkk => by
    simp only [bd_eq, Int.toNat_natCast, Nat.sub_zero, Nat.zero_add, List.drop_zero]
    have e : (h.Lots.drop k).take (h.Lots.length - k) = h.Lots.drop k := List.take_of_length_le (by simp)
    rw [e, chk_dec (by omega), chk_dec (by omega), chk_dec (by omega), chk_dec (by simp; omega), chk_dec (by omega), chk_dec (by omega), chk_dec (by omega), chk_dec (by simp; omega), chk_dec (by simp; omega)]
    unfold putLot
    rw [← hkk]
    rfl
  unfold spec_l16With_L2
  by_cases c : k < h.Lots.length
  · simp only [Int.ofNat_lt, c, decide_true, cond_true, ix_nat c, chk_true, Int.toNat_natCast] at hend ⊢
    by_cases d : (h.Lots.getD k dSLot).Id < x.Id
    · rw [decide_eq_true d, cond_true, w64_succ (by omega)]
      refine ih _ ⟨k + 1, ?_, rfl⟩ (by simp; omega)
      have : k ≠ cutN h.Lots x.Id := fun e => cutN_ge h.Lots x.Id (e ▸ c) (e ▸ d)
      omega
    · rw [decide_eq_false d, cond_false]
      refine hend ?_
      have : ¬ k < cutN h.Lots x.Id := fun e => d (cutN_lt _ _ _ e)
      omega
  · simp only [Int.ofNat_lt, c, decide_false, cond_false, Int.toNat_natCast] at hend ⊢
    exact hend (by omega)
/-! ### A lot put in by a sort -/
def incB (l : List SLot) : Prop := ∀ i j, i < j → j < l.length → (l.getD i dSLot).Id < (l.getD j dSLot).Id
def rngB (l : List SLot) : Prop := ∀ y ∈ l, 1 ≤ y.Id ∧ y.Id ≤ 1000000
theorem inc_pairwise {l : List SLot} (h : incB l) : l.Pairwise fun a b => a.Id < b.Id := by
  rw [List.pairwise_iff_getElem]
  intro i j hi hj hij
  have := h i j hij hj
  rwa [getD_eq hi, getD_eq hj] at this
theorem find_neg {l : List SLot} {id : Int} (h : ¬ findB l id ≥ 0) : ∀ y ∈ l, y.Id ≠ id := by
  intro y hy he
  obtain ⟨k, hk, rfl⟩ := List.mem_iff_getElem.1 hy
  have := idxOf_ge (fun k => decide ((l.getD k dSLot).Id = id)) l.length
  rw [show decide (idxOf (fun k => decide ((l.getD k dSLot).Id = id)) l.length ≥ 0) = false from decide_eq_false h] at this
  rw [any_range_of hk (by rw [getD_eq hk]; exact decide_eq_true he)] at this
  cases this
theorem with_pairwise {l : List SLot} {x : SLot} (h : incB l) (hx : ∀ y ∈ l, y.Id ≠ x.Id) : (putLot l x).Pairwise fun a b => a.Id < b.Id := by
  unfold putLot
  have hp := inc_pairwise h
  rw [List.pairwise_append]
  refine ⟨hp.sublist (List.take_sublist _ _), ?_, ?_⟩
  · rw [List.pairwise_cons]
    refine ⟨fun y hy => ?_, hp.sublist (List.drop_sublist _ _)⟩
    obtain ⟨k, hk, rfl⟩ := List.mem_iff_getElem.1 hy
    have hk2 : cutN l x.Id + k < l.length := by simp at hk; omega
    have h0 : ¬ (l.getD (cutN l x.Id) dSLot).Id < x.Id := cutN_ge l x.Id (by omega)
    have h1 : (l.getD (cutN l x.Id) dSLot).Id ≤ (l.getD (cutN l x.Id + k) dSLot).Id := by
      cases k with
      | zero => exact Int.le_refl _
      | succ k => have := h (cutN l x.Id) (cutN l x.Id + (k + 1)) (by omega) hk2; omega
    rw [List.getElem_drop]
    have h2 := hx _ (List.getElem_mem hk2)
    rw [getD_eq hk2] at h1
    omega
  · intro a ha b hb
    obtain ⟨k, hk, rfl⟩ := List.mem_iff_getElem.1 ha
    have hk2 : k < cutN l x.Id ∧ k < l.length := by simp at hk; omega
    have h1 := cutN_lt l x.Id k hk2.1
    rw [List.getElem_take]
    rw [getD_eq hk2.2] at h1
    rcases List.mem_cons.1 hb with rfl | hb
    · exact h1
    · obtain ⟨j, hj, rfl⟩ := List.mem_iff_getElem.1 hb
      have hj2 : cutN l x.Id + j < l.length := by simp at hj; omega
      rw [List.getElem_drop]
      have := h k (cutN l x.Id + j) (by omega) hj2
      rwa [getD_eq hk2.2, getD_eq hj2] at this
theorem with_perm (l : List SLot) (x : SLot) : (putLot l x).Perm (l ++ [x]) := by
  unfold putLot
  refine (List.perm_middle).trans ?_
  rw [List.take_append_drop]
  exact (List.perm_append_singleton x l).symm
theorem put_sorted {n : Nat} {l : List SLot} {x : SLot} (hl : l.length ≤ 1000000) (hi : incB l) (hr : rngB l) (hxr : 1 ≤ x.Id ∧ x.Id ≤ 1000000) (hx : ∀ y ∈ l, y.Id ≠ x.Id) :
    slices_SortFunc_impl_Lot_impl_Lot__impl_House_put_1 n (l ++ [x]) = some (putLot l x) := by
  unfold slices_SortFunc_impl_Lot_impl_Lot__impl_House_put_1
  have hm : ∀ y ∈ l ++ [x], 1 ≤ y.Id ∧ y.Id ≤ 1000000 := fun y hy => by
    rcases List.mem_append.1 hy with h | h
    · exact hr y h
    · simp at h; subst h; exact hxr
  obtain ⟨l', h1, h2, h3⟩ := sortL_ok (d := dSLot) (cmp := fun a b => impl_House_put_1 n a b) (cf := fun a b => a.Id - b.Id) (l := l ++ [x])
    (fun a ha b hb => by
      have := hm a ha; have := hm b hb
      unfold impl_House_put_1
      rw [w64_id (by omega) (by omega)])
    (fun a _ => by omega) (fun a _ b _ c _ _ _ => by omega) (fun a _ b _ c _ _ _ => by omega) (by simp; omega)
  rw [h1]
  congr 1
  have hw := with_pairwise hi hx
  refine List.Perm.eq_of_pairwise (le := fun a b => a.Id ≤ b.Id) ?_ (h3.imp fun h => by omega) (hw.imp fun h => by omega) (h2.trans (with_perm l x).symm)
  intro a b ha hb h4 h5
  have hab : a.Id = b.Id := by omega
  have ha' : a ∈ putLot l x := (with_perm l x).symm.subset (h2.subset ha)
  obtain ⟨i, hi', rfl⟩ := List.mem_iff_getElem.1 ha'
  obtain ⟨j, hj', rfl⟩ := List.mem_iff_getElem.1 hb
  rcases Nat.lt_trichotomy i j with h | h | h
  · have := List.pairwise_iff_getElem.1 hw i j hi' hj' h; omega
  · subst h; rfl
  · have := List.pairwise_iff_getElem.1 hw j i hj' hi' h; omega
theorem put_impl {n : Nat} {h : SHouse} {x : SLot} (hl : h.Lots.length ≤ 1000000) (hi : incB h.Lots) (hr : rngB h.Lots) (hxr : 1 ≤ x.Id ∧ x.Id ≤ 1000000) (hx : ∀ y ∈ h.Lots, y.Id ≠ x.Id) : impl_House_put n h x = some ⟨putLot h.Lots x, h.Traders, h.Taken⟩ := by
  unfold impl_House_put
  rw [chk_dec (by simp; omega), put_sorted hl hi hr hxr hx, Option.bind_some]
end Go.Sm
end

section
set_option linter.unusedSimpArgs false
set_option linter.deprecated false
set_option linter.unusedSectionVars false
set_option linter.unusedVariables false
set_option linter.unusedSimpArgs false
namespace Go.Sm
attribute [local irreducible] bd chk ix loopN
/-! ### What a house that is right says -/
theorem house_facts {h : SHouse} (H : houseB h = true) : h.Lots.length ≤ 40 ∧ h.Traders.length ≤ 10 ∧ ∀ k, k < h.Lots.length → lotB h k = true := by
  unfold houseB at H
  simp only [Bool.and_eq_true, decide_eq_true_eq] at H
  exact ⟨H.1, H.2.1, fun k hk => List.all_eq_true.1 H.2.2.2.1 k (List.mem_range.2 hk)⟩
theorem lot_facts {h : SHouse} (H : houseB h = true) {k : Nat} (hk : k < h.Lots.length) : rightB (h.Lots.getD k dSLot) = true ∧ (1 ≤ (h.Lots.getD k dSLot).Id ∧ (h.Lots.getD k dSLot).Id ≤ 1000000) ∧ (k ≠ 0 → (h.Lots.getD (k - 1) dSLot).Id < (h.Lots.getD k dSLot).Id) ∧
    (0 ≤ (h.Lots.getD k dSLot).Owner ∧ (h.Lots.getD k dSLot).Owner < (h.Traders.length : Int)) ∧ condB (h.Lots.getD k dSLot) = true := by
  obtain ⟨h1, h2, h3⟩ := house_facts H
  have h4 := h3 k hk
  unfold lotB lotId at h4
  simp only [Bool.and_eq_true, Bool.or_eq_true, decide_eq_true_eq, Bool.not_eq_true', decide_eq_false_iff_not] at h4
  obtain ⟨g1, ⟨g2, g3⟩, g4, g5, g6⟩ := h4
  exact ⟨g1, g2, fun hne => by rcases g3 with g | g; exact absurd g hne; omega, own_lt h2 g4, g6⟩
theorem house_inc {h : SHouse} (H : houseB h = true) : incB h.Lots := by
  intro i j hij hj
  obtain ⟨m, rfl⟩ : ∃ m, j = i + 1 + m := ⟨j - i - 1, by omega⟩
  induction m with
  | zero => exact (lot_facts H hj).2.2.1 (by omega)
  | succ m ih =>
    have h1 := ih (by omega) (by omega)
    have h2 := (lot_facts H hj).2.2.1 (by omega)
    rw [show i + 1 + (m + 1) - 1 = i + 1 + m by omega] at h2
    omega
theorem house_rng {h : SHouse} (H : houseB h = true) : rngB h.Lots := by
  intro y hy
  obtain ⟨k, hk, rfl⟩ := List.mem_iff_getElem.1 hy
  have := (lot_facts H hk).2.1
  rwa [getD_eq hk] at this
/-! ### What a deed comes to -/
def rightD (d : SDeed) : Bool := rightB ⟨d.Id, d.Owner, d.Many, d.Value, d.Rate, 1, 0⟩
def badB (h : SHouse) (d : SDeed) : Bool := !houseB h || (!decide (1 ≤ d.Kind ∧ d.Kind ≤ 8) || (!decide (1 ≤ d.Id ∧ d.Id ≤ 1000000) ||
  (bif decide (d.Kind = 1) then !rightD d || !decide (0 ≤ d.Owner ∧ d.Owner ≤ w64 ((h.Traders.length : Int) - 1)) else bif decide (d.Kind = 8) then decide (d.Many < 1) || !decide (1 ≤ d.New ∧ d.New ≤ 1000000) else false)))
def fromI (k : Int) : Int := bif decide (k = 3) then 2 else bif decide (k = 6) then 3 else bif decide (k = 7) then 4 else 1
def coreD (h : SHouse) (d : SDeed) (k : Nat) (x : SLot) (t : STrader) : SHouse × Int :=
  bif decide (d.Kind = 2) then (⟨h.Lots.set k ⟨x.Id, x.Owner, x.Many, x.Value, x.Rate, 2, x.Bond⟩, h.Traders, h.Taken⟩, 0)
  else bif decide (d.Kind = 3) then (⟨h.Lots.set k ⟨x.Id, x.Owner, x.Many, x.Value, x.Rate, 1, x.Bond⟩, h.Traders, h.Taken⟩, 0)
  else bif decide (d.Kind = 4) then (bif decide (t.Money < dutyI x) then (h, 5) else bif decide (w64 (h.Taken + dutyI x) > 1000000000000000) then (h, 5) else (⟨h.Lots.set k ⟨x.Id, x.Owner, x.Many, x.Value, x.Rate, 4, x.Bond⟩, h.Traders.set x.Owner.toNat ⟨w64 (t.Money - dutyI x), t.Bond, t.Bound⟩, w64 (h.Taken + dutyI x)⟩, 0))
  else bif decide (d.Kind = 5) then (bif decide (w64 (t.Bond - t.Bound) < dutyI x) then (h, 5) else (⟨h.Lots.set k ⟨x.Id, x.Owner, x.Many, x.Value, x.Rate, 3, dutyI x⟩, h.Traders.set x.Owner.toNat ⟨t.Money, t.Bond, w64 (t.Bound + dutyI x)⟩, h.Taken⟩, 0))
  else bif decide (d.Kind = 6) then (⟨h.Lots.set k ⟨x.Id, x.Owner, x.Many, x.Value, x.Rate, 5, 0⟩, h.Traders.set x.Owner.toNat ⟨t.Money, t.Bond, w64 (t.Bound - x.Bond)⟩, h.Taken⟩, 0)
  else bif decide (d.Kind = 7) then (⟨h.Lots.set k ⟨x.Id, x.Owner, x.Many, x.Value, x.Rate, 5, x.Bond⟩, h.Traders, h.Taken⟩, 0)
  else bif hasB h.Lots d.New then (h, 2) else (⟨putLot (h.Lots.set k ⟨x.Id, x.Owner, w64 (x.Many - d.Many), x.Value, x.Rate, x.State, x.Bond⟩) ⟨d.New, x.Owner, d.Many, x.Value, x.Rate, x.State, x.Bond⟩, h.Traders, h.Taken⟩, 0)
def atD (h : SHouse) (d : SDeed) (k : Nat) : SHouse × Int :=
  bif !decide ((h.Lots.getD k dSLot).State = fromI d.Kind) then (h, 4) else bif decide (d.Kind = 8) && decide (d.Many ≥ (h.Lots.getD k dSLot).Many) then (h, 4) else coreD h d k (h.Lots.getD k dSLot) (h.Traders.getD (h.Lots.getD k dSLot).Owner.toNat dSTrader)
def goD (h : SHouse) (d : SDeed) : SHouse × Int :=
  bif decide (d.Kind = 1) then (bif hasB h.Lots d.Id then (h, 2) else (⟨putLot h.Lots ⟨d.Id, d.Owner, d.Many, d.Value, d.Rate, 1, 0⟩, h.Traders, h.Taken⟩, 0))
  else bif decide (findB h.Lots d.Id < 0) then (h, 3) else atD h d (findB h.Lots d.Id).toNat
def doD (h : SHouse) (d : SDeed) : SHouse × Int := bif badB h d then (h, 1) else goD h d
theorem bad_spec {n : Nat} (h : SHouse) (d : SDeed) (hn : 1000000000 < n) : spec_l16Bad n h d = some (badB h d) := by
  unfold spec_l16Bad badB spec_l16Bad_k0
  have hd : spec_Duty6 n d.Many d.Value d.Rate = some (bif rightD d then (dutyI ⟨d.Id, d.Owner, d.Many, d.Value, d.Rate, 1, 0⟩, true) else (0, false)) := duty_spec n ⟨d.Id, d.Owner, d.Many, d.Value, d.Rate, 1, 0⟩
  simp only [house_spec h hn, in_spec, Option.bind_some, hd, bd_eq]
  cases houseB h <;> cases decide (1 ≤ d.Kind ∧ d.Kind ≤ 8) <;> cases decide (1 ≤ d.Id ∧ d.Id ≤ 1000000) <;> cases decide (d.Kind = 1) <;> cases rightD d <;> cases decide (0 ≤ d.Owner ∧ d.Owner ≤ w64 ((h.Traders.length : Int) - 1)) <;> cases decide (d.Kind = 8) <;> cases decide (d.Many < 1) <;> cases decide (1 ≤ d.New ∧ d.New ≤ 1000000) <;> rfl
theorem own_lots (n : Nat) (l : List SLot) (hl : l.length ≤ 2000000) : impl_own_impl_Lot n l = some l := by
  unfold impl_own_impl_Lot
  rw [chk_dec (by omega), chk_dec (by omega), chk_dec (by omega)]
theorem own_traders (n : Nat) (l : List STrader) (hl : l.length ≤ 2000000) : impl_own_impl_Trader n l = some l := by
  unfold impl_own_impl_Trader
  rw [chk_dec (by omega), chk_dec (by omega), chk_dec (by omega)]
theorem own_house (n : Nat) (h : SHouse) (h1 : h.Lots.length ≤ 2000000) (h2 : h.Traders.length ≤ 2000000) : impl_House_own n h = some h := by
  unfold impl_House_own
  rw [own_lots n _ h1, Option.bind_some, own_traders n _ h2, Option.bind_some]
theorem copy_house (n : Nat) (h : SHouse) (h1 : h.Lots.length ≤ 2000000) (h2 : h.Traders.length ≤ 2000000) : spec_l16Copy n h = some h := by
  unfold spec_l16Copy
  rw [chk_dec (by omega), chk_dec (by omega)]
theorem lget {l : List SLot} {i : Nat} {x d : SLot} (h : i < l.length) : (l.set i x).getD i d = x := by simp [List.getD, h]
theorem tget {l : List STrader} {i : Nat} {x d : STrader} (h : i < l.length) : (l.set i x).getD i d = x := by simp [List.getD, h]
theorem tset {l : List STrader} {i : Nat} {d : STrader} (h : i < l.length) : l.set i (l.getD i d) = l := by
  apply List.ext_getElem
  · simp
  · intro j h1 h2
    rw [List.getElem_set]
    split
    · rename_i e; subst e; exact getD_eq h
    · rfl
/-- The numbers of lots one of which has been turned. -/
theorem ids_set {l : List SLot} {k : Nat} {x : SLot} (hk : k < l.length) (hx : x.Id = (l.getD k dSLot).Id) (i : Nat) : ((l.set k x).getD i dSLot).Id = (l.getD i dSLot).Id := by
  by_cases e : i = k
  · subst e; rw [lget hk, hx]
  · simp [List.getD, List.getElem?_set, Ne.symm e]
theorem mem_ids {l l' : List SLot} (hl : l'.length = l.length) (h : ∀ i, (l'.getD i dSLot).Id = (l.getD i dSLot).Id) {P : Int → Prop} (hp : ∀ y ∈ l, P y.Id) : ∀ y ∈ l', P y.Id := fun y hy => by
  obtain ⟨i, hi, rfl⟩ := List.mem_iff_getElem.1 hy
  have := h i
  rw [getD_eq hi, getD_eq (show i < l.length by omega)] at this
  rw [this]
  exact hp _ (List.getElem_mem _)
section
variable {n : Nat} {h : SHouse} {d : SDeed} {k : Nat} (hn : 1000000000 < n) (H : houseB h = true) (hk : k < h.Lots.length) (hK : 2 ≤ d.Kind ∧ d.Kind ≤ 8)
include hn H hk hK
theorem core_impl (hs : d.Kind = 8 → 1 ≤ d.New ∧ d.New ≤ 1000000) : impl_DoDeed_k3 n k (h.Lots.getD k dSLot).Owner.toNat d h.Taken h.Lots h.Traders h.Taken h.Lots h.Traders = some (coreD h d k (h.Lots.getD k dSLot) (h.Traders.getD (h.Lots.getD k dSLot).Owner.toNat dSTrader)) := by
  obtain ⟨h1, h2, _⟩ := house_facts H
  obtain ⟨g1, g2, g3, g4, g5⟩ := lot_facts H hk
  have ho : (h.Lots.getD k dSLot).Owner.toNat < h.Traders.length := by omega
  unfold impl_DoDeed_k3 coreD
  by_cases k2 : d.Kind = 2
  · rw [decide_eq_true k2]
    simp only [cond_true, chk_dec hk, bd_eq]
    rw [own_house n _ (by simp; omega) (by dsimp only; omega)]; rfl
  rw [decide_eq_false k2]
  by_cases k3 : d.Kind = 3
  · rw [decide_eq_true k3]
    simp only [cond_true, cond_false, chk_dec hk, bd_eq]
    rw [own_house n _ (by simp; omega) (by dsimp only; omega)]; rfl
  rw [decide_eq_false k3]
  by_cases k4 : d.Kind = 4
  · rw [decide_eq_true k4]
    simp only [cond_true, cond_false, chk_dec hk, chk_dec ho, bd_eq, duty_impl n _ g1, Option.bind_some]
    cases decide ((h.Traders.getD (h.Lots.getD k dSLot).Owner.toNat dSTrader).Money < dutyI (h.Lots.getD k dSLot)) with
    | true => rfl
    | false =>
      cases decide (w64 (h.Taken + dutyI (h.Lots.getD k dSLot)) > 1000000000000000) with
      | true => rfl
      | false =>
        simp only [cond_false]
        unfold impl_DoDeed_k0
        simp only [chk_dec hk, chk_dec ho, bd_eq]
        rw [own_house n _ (by simp; omega) (by simp; omega)]; rfl
  rw [decide_eq_false k4]
  by_cases k5 : d.Kind = 5
  · rw [decide_eq_true k5]
    simp only [cond_true, cond_false, chk_dec hk, chk_dec ho, bd_eq, duty_impl n _ g1, Option.bind_some]
    cases decide (w64 ((h.Traders.getD (h.Lots.getD k dSLot).Owner.toNat dSTrader).Bond - (h.Traders.getD (h.Lots.getD k dSLot).Owner.toNat dSTrader).Bound) < dutyI (h.Lots.getD k dSLot)) with
    | true => rfl
    | false =>
      simp only [cond_false]
      unfold impl_DoDeed_k1
      simp only [chk_dec hk, chk_dec ho, bd_eq, List.length_set, lget hk, List.set_set]
      rw [own_house n _ (by simp; omega) (by simp; omega)]; rfl
  rw [decide_eq_false k5]
  by_cases k6 : d.Kind = 6
  · rw [decide_eq_true k6]
    simp only [cond_true, cond_false, chk_dec hk, chk_dec ho, bd_eq, List.length_set, lget hk, List.set_set]
    rw [own_house n _ (by simp; omega) (by simp; omega)]; rfl
  rw [decide_eq_false k6]
  by_cases k7 : d.Kind = 7
  · rw [decide_eq_true k7]
    simp only [cond_true, cond_false, chk_dec hk, chk_dec ho, bd_eq]
    rw [own_house n _ (by simp; omega) (by dsimp only; omega)]; rfl
  have k8 : d.Kind = 8 := by omega
  rw [decide_eq_false k7, decide_eq_true k8]
  simp only [cond_true, cond_false]
  have hh : impl_DoDeed_1 n d.New (⟨h.Lots, h.Traders, h.Taken⟩ : SHouse) = some (hasB h.Lots d.New) := has_impl ⟨h.Lots, h.Traders, h.Taken⟩ d.New (by show h.Lots.length ≤ _; omega) hn
  rw [hh, Option.bind_some]
  cases hB : hasB h.Lots d.New with
  | true => rfl
  | false =>
    simp only [cond_false]
    unfold impl_DoDeed_k2
    simp only [chk_dec hk, bd_eq, List.length_set, lget hk]
    unfold hasB at hB
    simp only [Bool.or_eq_false_iff, decide_eq_false_iff_not] at hB
    have hid := ids_set (l := h.Lots) (k := k) (x := ⟨(h.Lots.getD k dSLot).Id, (h.Lots.getD k dSLot).Owner, w64 ((h.Lots.getD k dSLot).Many - d.Many), (h.Lots.getD k dSLot).Value, (h.Lots.getD k dSLot).Rate, (h.Lots.getD k dSLot).State, (h.Lots.getD k dSLot).Bond⟩) hk rfl
    have hlen : (h.Lots.set k ⟨(h.Lots.getD k dSLot).Id, (h.Lots.getD k dSLot).Owner, w64 ((h.Lots.getD k dSLot).Many - d.Many), (h.Lots.getD k dSLot).Value, (h.Lots.getD k dSLot).Rate, (h.Lots.getD k dSLot).State, (h.Lots.getD k dSLot).Bond⟩).length = h.Lots.length := by simp
    generalize h.Lots.set k ⟨(h.Lots.getD k dSLot).Id, (h.Lots.getD k dSLot).Owner, w64 ((h.Lots.getD k dSLot).Many - d.Many), (h.Lots.getD k dSLot).Value, (h.Lots.getD k dSLot).Rate, (h.Lots.getD k dSLot).State, (h.Lots.getD k dSLot).Bond⟩ = L at hid hlen ⊢
    rw [put_impl (h := ⟨L, h.Traders, h.Taken⟩) (by show L.length ≤ _; omega) (fun i j hij hj => by
        show (L.getD i dSLot).Id < (L.getD j dSLot).Id
        rw [hid, hid]; exact house_inc H i j hij (by have : j < L.length := hj; omega)) (mem_ids (P := fun z => 1 ≤ z ∧ z ≤ 1000000) hlen hid (house_rng H)) (hs k8) (mem_ids (P := fun z => z ≠ d.New) hlen hid (find_neg hB.1)), Option.bind_some]
    have hw : (putLot L ⟨d.New, (h.Lots.getD k dSLot).Owner, d.Many, (h.Lots.getD k dSLot).Value, (h.Lots.getD k dSLot).Rate, (h.Lots.getD k dSLot).State, (h.Lots.getD k dSLot).Bond⟩).length = L.length + 1 := by
      have := (with_perm L ⟨d.New, (h.Lots.getD k dSLot).Owner, d.Many, (h.Lots.getD k dSLot).Value, (h.Lots.getD k dSLot).Rate, (h.Lots.getD k dSLot).State, (h.Lots.getD k dSLot).Bond⟩).length_eq
      simpa using this
    rw [own_house n _ (by dsimp only; omega) (by dsimp only; omega)]; rfl
end
end Go.Sm
end

section
set_option linter.unusedSimpArgs false
set_option linter.deprecated false
set_option linter.unusedSectionVars false
set_option linter.unusedVariables false
set_option linter.unusedSimpArgs false
namespace Go.Sm
attribute [local irreducible] bd chk ix loopN
section
variable {n : Nat} {h : SHouse} {d : SDeed} {k : Nat} (hn : 1000000000 < n) (H : houseB h = true) (hk : k < h.Lots.length) (hK : 2 ≤ d.Kind ∧ d.Kind ≤ 8)
include hn H hk hK
theorem at_impl (hs : d.Kind = 8 → 1 ≤ d.New ∧ d.New ≤ 1000000) : impl_DoDeed_k8 n (k : Int) d h.Taken h.Lots h.Traders h.Taken h.Lots h.Traders = some (atD h d k) := by
  obtain ⟨h1, h2, _⟩ := house_facts H
  obtain ⟨g1, g2, g3, g4, g5⟩ := lot_facts H hk
  have hc := core_impl hn H hk hK hs
  have key : ∀ c : Int, fromI d.Kind = c → (chk (decide (k < h.Lots.length)) ((bif (!(decide ((h.Lots.getD k dSLot).State = c))) then some ((⟨h.Lots, h.Traders, h.Taken⟩ : SHouse), (4 : Int)) else (bif (decide (d.Kind = (8 : Int))) then chk (decide (k < h.Lots.length)) ((bif (decide (d.Many ≥ (h.Lots.getD k dSLot).Many)) then some ((⟨h.Lots, h.Traders, h.Taken⟩ : SHouse), (4 : Int)) else impl_DoDeed_k3 n  k (h.Lots.getD k dSLot).Owner.toNat d h.Taken h.Lots h.Traders h.Taken h.Lots h.Traders)) else impl_DoDeed_k3 n  k (h.Lots.getD k dSLot).Owner.toNat d h.Taken h.Lots h.Traders h.Taken h.Lots h.Traders)))) = some (atD h d k) := fun c e => by
    unfold atD
    rw [chk_dec hk, chk_dec hk, hc, e]
    cases decide ((h.Lots.getD k dSLot).State = c) <;> cases decide (d.Kind = 8) <;> cases decide (d.Many ≥ (h.Lots.getD k dSLot).Many) <;> rfl
  unfold impl_DoDeed_k8
  simp only [ix_nat hk, chk_true, chk_dec hk, Int.toNat_natCast, ix_of g4.1 g4.2]
  by_cases k3 : d.Kind = 3
  · rw [decide_eq_true k3, cond_true]
    exact key 2 (by unfold fromI; rw [decide_eq_true k3]; rfl)
  rw [decide_eq_false k3, cond_false]
  by_cases k6 : d.Kind = 6
  · rw [decide_eq_true k6, cond_true]
    exact key 3 (by unfold fromI; rw [decide_eq_false k3, decide_eq_true k6]; rfl)
  rw [decide_eq_false k6, cond_false]
  by_cases k7 : d.Kind = 7
  · rw [decide_eq_true k7, cond_true]
    exact key 4 (by unfold fromI; rw [decide_eq_false k3, decide_eq_false k6, decide_eq_true k7]; rfl)
  rw [decide_eq_false k7, cond_false]
  exact key 1 (by unfold fromI; rw [decide_eq_false k3, decide_eq_false k6, decide_eq_false k7]; rfl)
theorem core_spec (hs8 : d.Kind = 8 → (h.Lots.getD k dSLot).State = 1) (hs6 : d.Kind = 6 → (h.Lots.getD k dSLot).State = 3) : spec_DoDeed_k8 n (k : Int) h d h.Taken h.Lots h.Traders (h.Lots.getD k dSLot) = some (coreD h d k (h.Lots.getD k dSLot) (h.Traders.getD (h.Lots.getD k dSLot).Owner.toNat dSTrader)) := by
  obtain ⟨h1, h2, _⟩ := house_facts H
  obtain ⟨g1, g2, g3, g4, g5⟩ := lot_facts H hk
  have ho : (h.Lots.getD k dSLot).Owner.toNat < h.Traders.length := by omega
  unfold spec_DoDeed_k8 coreD
  rw [duty_spec, g1, cond_true, Option.bind_some, ix_of g4.1 g4.2]
  simp only [bd_eq]
  by_cases k2 : d.Kind = 2
  · rw [decide_eq_true k2]
    unfold spec_DoDeed_k0
    simp only [cond_true, cond_false, ix_nat hk, chk_true, chk_dec hk, chk_dec ho, Int.toNat_natCast, bd_eq, ix_of g4.1 g4.2, tset ho]
  rw [decide_eq_false k2]
  by_cases k3 : d.Kind = 3
  · rw [decide_eq_true k3]
    unfold spec_DoDeed_k1
    simp only [cond_true, cond_false, ix_nat hk, chk_true, chk_dec hk, chk_dec ho, Int.toNat_natCast, bd_eq, ix_of g4.1 g4.2, tset ho]
  rw [decide_eq_false k3]
  by_cases k4 : d.Kind = 4
  · rw [decide_eq_true k4]
    unfold spec_DoDeed_k2
    simp only [cond_true, cond_false, ix_nat hk, chk_true, chk_dec hk, chk_dec ho, Int.toNat_natCast, bd_eq, ix_of g4.1 g4.2]
    cases decide ((h.Traders.getD (h.Lots.getD k dSLot).Owner.toNat dSTrader).Money < dutyI (h.Lots.getD k dSLot)) <;> cases decide (w64 (h.Taken + dutyI (h.Lots.getD k dSLot)) > 1000000000000000) <;> rfl
  rw [decide_eq_false k4]
  by_cases k5 : d.Kind = 5
  · rw [decide_eq_true k5]
    unfold spec_DoDeed_k3
    simp only [cond_true, cond_false, ix_nat hk, chk_true, chk_dec hk, chk_dec ho, Int.toNat_natCast, bd_eq, ix_of g4.1 g4.2]
    cases decide (w64 ((h.Traders.getD (h.Lots.getD k dSLot).Owner.toNat dSTrader).Bond - (h.Traders.getD (h.Lots.getD k dSLot).Owner.toNat dSTrader).Bound) < dutyI (h.Lots.getD k dSLot)) <;> rfl
  rw [decide_eq_false k5]
  by_cases k6 : d.Kind = 6
  · have e := g5
    unfold condB at e
    rw [decide_eq_true (hs6 k6), cond_true, decide_eq_true_eq] at e
    rw [decide_eq_true k6]
    unfold spec_DoDeed_k4
    simp only [cond_true, cond_false, ix_nat hk, chk_true, chk_dec hk, chk_dec ho, Int.toNat_natCast, bd_eq, ix_of g4.1 g4.2, e]
  rw [decide_eq_false k6]
  by_cases k7 : d.Kind = 7
  · rw [decide_eq_true k7]
    unfold spec_DoDeed_k5
    simp only [cond_true, cond_false, ix_nat hk, chk_true, chk_dec hk, chk_dec ho, Int.toNat_natCast, bd_eq, ix_of g4.1 g4.2, tset ho]
  have k8 : d.Kind = 8 := by omega
  rw [decide_eq_false k7, decide_eq_true k8]
  simp only [cond_true, cond_false]
  rw [find_spec h d.New (by omega) hn, Option.bind_some]
  unfold hasB
  cases decide (findB h.Lots d.New ≥ 0) with
  | true => rfl
  | false =>
    simp only [cond_false, Bool.false_or]
    cases decide ((h.Lots.length : Int) = 40) with
    | true => rfl
    | false =>
      simp only [cond_false]
      have e := g5
      unfold condB at e
      rw [decide_eq_false (show ¬ (h.Lots.getD k dSLot).State = 3 by rw [hs8 k8]; omega), cond_false, decide_eq_true_eq] at e
      unfold spec_DoDeed_k6
      simp only [ix_nat hk, chk_true, chk_dec hk, Int.toNat_natCast, bd_eq]
      rw [with_spec _ _ (by simp; omega) hn, Option.bind_some, hs8 k8, e]
theorem at_spec : spec_DoDeed_k9 n (k : Int) h d h.Taken h.Lots h.Traders = some (atD h d k) := by
  unfold spec_DoDeed_k9 atD
  have hf : spec_l16From n d.Kind = some (fromI d.Kind) := by
    unfold spec_l16From fromI
    cases decide (d.Kind = 3) <;> cases decide (d.Kind = 6) <;> cases decide (d.Kind = 7) <;> rfl
  simp only [ix_nat hk, Int.toNat_natCast, bd_eq, hf, Option.bind_some]
  by_cases hst : (h.Lots.getD k dSLot).State = fromI d.Kind
  · have hc := core_spec hn H hk hK (fun e => by rw [hst]; unfold fromI; rw [e]; rfl) (fun e => by rw [hst]; unfold fromI; rw [e]; rfl)
    rw [hc, decide_eq_true hst]
    cases decide (d.Kind = 8) <;> cases decide (d.Many ≥ (h.Lots.getD k dSLot).Many) <;> rfl
  · rw [decide_eq_false hst]
    rfl
end
theorem find_nat {l : List SLot} {id : Int} (h : ¬ findB l id < 0) : ∃ k : Nat, findB l id = (k : Int) ∧ k < l.length := by
  rcases idxOf_spec (fun k => decide ((l.getD k dSLot).Id = id)) l.length with ⟨h1, _⟩ | ⟨k, h1, h2, _⟩
  · exact absurd (show findB l id < 0 from by show idxOf _ _ < 0; omega) h
  · exact ⟨k, h1, h2⟩
theorem go_spec {n : Nat} {h : SHouse} {d : SDeed} (hn : 1000000000 < n) (hb : badB h d = false) : spec_DoDeed_k10 n h d h.Taken h.Lots h.Traders = some (goD h d) := by
  unfold badB at hb
  simp only [Bool.or_eq_false_iff, Bool.not_eq_false', decide_eq_true_eq] at hb
  obtain ⟨H, hK, hI, _⟩ := hb
  obtain ⟨h1, h2, _⟩ := house_facts H
  unfold spec_DoDeed_k10 goD
  rw [find_spec h d.Id (by omega) hn, Option.bind_some]
  by_cases k1 : d.Kind = 1
  · rw [decide_eq_true k1]
    simp only [cond_true]
    unfold hasB
    cases decide (findB h.Lots d.Id ≥ 0) with
    | true => rfl
    | false =>
      cases decide ((h.Lots.length : Int) = 40) with
      | true => rfl
      | false =>
        simp only [cond_false, Bool.false_or]
        rw [with_spec _ _ (by dsimp only; omega) hn, Option.bind_some]
  · rw [decide_eq_false k1]
    simp only [cond_false]
    by_cases hf : findB h.Lots d.Id < 0
    · rw [decide_eq_true hf]; rfl
    · rw [decide_eq_false hf]
      obtain ⟨k, e, hk⟩ := find_nat hf
      rw [e]
      simp only [cond_false, Int.toNat_natCast]
      exact at_spec hn H hk (by omega)
theorem do_spec {n : Nat} (h : SHouse) (d : SDeed) (h1 : h.Lots.length ≤ 2000000) (h2 : h.Traders.length ≤ 2000000) (hn : 1000000000 < n) : spec_DoDeed n h d = some (doD h d) := by
  unfold spec_DoDeed doD
  rw [copy_house n h h1 h2, Option.bind_some, bad_spec h d hn, Option.bind_some]
  cases hb : badB h d with
  | true => rfl
  | false => exact go_spec hn hb
theorem go_impl {n : Nat} {h : SHouse} {d : SDeed} (hn : 1000000000 < n) (hb : badB h d = false) : impl_DoDeed_k9 n h d h.Taken h.Lots h.Traders = some (goD h d) := by
  unfold badB at hb
  simp only [Bool.or_eq_false_iff, Bool.not_eq_false', decide_eq_true_eq] at hb
  obtain ⟨H, hK, hI, hX⟩ := hb
  obtain ⟨h1, h2, _⟩ := house_facts H
  unfold impl_DoDeed_k9 goD
  rw [own_house n h (by omega) (by omega), Option.bind_some]
  by_cases k1 : d.Kind = 1
  · rw [decide_eq_true k1]
    simp only [cond_true]
    rw [has_impl h d.Id (by omega) hn, Option.bind_some]
    cases hB : hasB h.Lots d.Id with
    | true => rfl
    | false =>
      simp only [cond_false]
      unfold hasB at hB
      simp only [Bool.or_eq_false_iff, decide_eq_false_iff_not] at hB
      have hw : (putLot h.Lots ⟨d.Id, d.Owner, d.Many, d.Value, d.Rate, 1, 0⟩).length = h.Lots.length + 1 := by
        have := (with_perm h.Lots ⟨d.Id, d.Owner, d.Many, d.Value, d.Rate, 1, 0⟩).length_eq
        simpa using this
      rw [put_impl (by omega) (house_inc H) (house_rng H) hI (find_neg hB.1), Option.bind_some, own_house n _ (by dsimp only; omega) (by dsimp only; omega)]
      rfl
  · rw [decide_eq_false k1]
    simp only [cond_false]
    rw [lot_impl h d.Id (by omega) hn, Option.bind_some]
    by_cases hf : findB h.Lots d.Id < 0
    · rw [decide_eq_true hf]; rfl
    · rw [decide_eq_false hf]
      obtain ⟨k, e, hk⟩ := find_nat hf
      rw [e]
      simp only [cond_false, Int.toNat_natCast]
      refine at_impl hn H hk (by omega) fun k8 => ?_
      rw [decide_eq_false k1, decide_eq_true k8] at hX
      simp only [cond_false, cond_true, Bool.or_eq_false_iff, Bool.not_eq_false', decide_eq_true_eq, decide_eq_false_iff_not] at hX
      exact hX.2
theorem do_impl {n : Nat} (h : SHouse) (d : SDeed) (h1 : h.Lots.length ≤ 2000000) (h2 : h.Traders.length ≤ 2000000) (hn : 1000000000 < n) : impl_DoDeed n h d = some (doD h d) := by
  unfold impl_DoDeed doD
  rw [own_house n h h1 h2, Option.bind_some, house_impl h hn, Option.bind_some]
  have hr : impl_lotRight n d.Many d.Value d.Rate = some (rightD d) := right_impl n ⟨d.Id, d.Owner, d.Many, d.Value, d.Rate, 1, 0⟩
  simp only [in_impl, id_impl3, Option.bind_some, bd_eq, hr]
  cases hb : badB h d with
  | true =>
    unfold badB at hb
    revert hb
    by_cases k1 : d.Kind = 1
    · rw [decide_eq_true k1, decide_eq_false (show ¬ d.Kind = 8 by omega)]
      cases houseB h <;> cases decide (1 ≤ d.Kind ∧ d.Kind ≤ 8) <;> cases decide (1 ≤ d.Id ∧ d.Id ≤ 1000000) <;> cases decide (0 ≤ d.Owner ∧ d.Owner ≤ w64 ((h.Traders.length : Int) - 1)) <;> cases rightD d <;> intro hb <;> first | rfl | cases hb
    · rw [decide_eq_false k1]
      cases houseB h <;> cases decide (1 ≤ d.Kind ∧ d.Kind ≤ 8) <;> cases decide (1 ≤ d.Id ∧ d.Id ≤ 1000000) <;> cases decide (d.Kind = 8) <;> cases decide (d.Many < 1) <;> cases decide (1 ≤ d.New ∧ d.New ≤ 1000000) <;> intro hb <;> first | rfl | cases hb
  | false =>
    rw [go_impl hn hb]
    unfold badB at hb
    revert hb
    by_cases k1 : d.Kind = 1
    · rw [decide_eq_true k1, decide_eq_false (show ¬ d.Kind = 8 by omega)]
      cases houseB h <;> cases decide (1 ≤ d.Kind ∧ d.Kind ≤ 8) <;> cases decide (1 ≤ d.Id ∧ d.Id ≤ 1000000) <;> cases decide (0 ≤ d.Owner ∧ d.Owner ≤ w64 ((h.Traders.length : Int) - 1)) <;> cases rightD d <;> intro hb <;> first | rfl | cases hb
    · rw [decide_eq_false k1]
      cases houseB h <;> cases decide (1 ≤ d.Kind ∧ d.Kind ≤ 8) <;> cases decide (1 ≤ d.Id ∧ d.Id ≤ 1000000) <;> cases decide (d.Kind = 8) <;> cases decide (d.Many < 1) <;> cases decide (1 ≤ d.New ∧ d.New ≤ 1000000) <;> intro hb <;> first | rfl | cases hb
theorem cond_p {α : Type} {P : α → Prop} {b : Bool} {x y : α} (hx : P x) (hy : P y) : P (bif b then x else y) := by cases b <;> assumption
def lenP (h : SHouse) (r : SHouse × Int) : Prop := r.1.Lots.length ≤ h.Lots.length + 1 ∧ r.1.Traders.length = h.Traders.length
theorem doD_len (h : SHouse) (d : SDeed) : lenP h (doD h d) := by
  have hw : ∀ (l : List SLot) (x : SLot), (putLot l x).length = l.length + 1 := fun l x => by
    have := (with_perm l x).length_eq
    simpa using this
  unfold doD goD atD coreD
  repeat' (refine cond_p ?_ ?_)
  all_goals (unfold lenP; simp [hw])
end Go.Sm
end

section
set_option linter.unusedSimpArgs false
set_option linter.deprecated false
set_option linter.unusedSectionVars false
set_option linter.unusedVariables false
set_option linter.unusedSimpArgs false
namespace Go.Sm
attribute [local irreducible] bd chk ix loopN
def runD (h : SHouse) (l : List SDeed) : SHouse × List Int := l.foldl (fun s d => ((doD s.1 d).1, s.2 ++ [(doD s.1 d).2])) (h, [])
theorem runD_succ (h : SHouse) (l : List SDeed) {k : Nat} (hk : k < l.length) : runD h (l.take (k + 1)) = ((doD (runD h (l.take k)).1 (l.getD k dSDeed)).1, (runD h (l.take k)).2 ++ [(doD (runD h (l.take k)).1 (l.getD k dSDeed)).2]) := by
  unfold runD
  rw [take_succ_getD (d := dSDeed) hk, List.foldl_append]
  rfl
theorem runD_len (h : SHouse) (l : List SDeed) : ∀ k, k ≤ l.length → (runD h (l.take k)).1.Lots.length ≤ h.Lots.length + k ∧ (runD h (l.take k)).1.Traders.length = h.Traders.length ∧ (runD h (l.take k)).2.length = k
  | 0, _ => ⟨Nat.le_refl _, rfl, rfl⟩
  | k + 1, hk => by
    obtain ⟨h1, h2, h3⟩ := runD_len h l k (by omega)
    rw [runD_succ h l (by omega)]
    obtain ⟨g1, g2⟩ := doD_len (runD h (l.take k)).1 (l.getD k dSDeed)
    exact ⟨by dsimp only; omega, by dsimp only; omega, by simp [h3]⟩
def runsD (h : SHouse) (l : List SDeed) : SHouse × List Int := if l.length ≤ 200 then runD h l else (h, [])
theorem runs_spec {n : Nat} (h : SHouse) (l : List SDeed) (h1 : h.Lots.length ≤ 1048576) (h2 : h.Traders.length ≤ 1048576) (hl : l.length ≤ 1048576) (hn : 1000000000 < n) : spec_RunDeeds n h l = some (runsD h l) := by
  unfold spec_RunDeeds runsD
  rw [copy_house n h (by omega) (by omega), Option.bind_some]
  by_cases h200 : l.length ≤ 200
  · rw [if_pos h200]
    refine loop_runS (S := SHouse × List Int) (X := Int × Int × List SLot × List STrader × List Int) (enc := fun i s => (i, s.1.Taken, s.1.Lots, s.1.Traders, s.2)) (len := l.length) (I := fun k s => s = runD h (l.take k)) (Q := fun r => r = some (runD h l)) (fun k s J hk hi => ?_) (fun s J hi => ?_) (n := n) (by omega) (s0 := (h, [])) rfl
    · refine ⟨runD h (l.take (k + 1)), rfl, ?_⟩
      obtain ⟨g1, g2, g3⟩ := runD_len h l k (by omega)
      subst hi
      unfold spec_RunDeeds_L4 spec_RunDeeds_k0
      have hd : spec_DoDeed n (⟨(runD h (l.take k)).1.Lots, (runD h (l.take k)).1.Traders, (runD h (l.take k)).1.Taken⟩ : SHouse) (l.getD k dSDeed) = some (doD (runD h (l.take k)).1 (l.getD k dSDeed)) := do_spec _ _ (by dsimp only; omega) (by dsimp only; omega) hn
      simp only [Int.ofNat_lt, hk, decide_true, cond_true, ix_nat hk, bd_eq, Int.toNat_natCast, decide_eq_true (show (l.length : Int) ≤ 200 by omega), hd, Option.bind_some, w64_succ (show k < 9223372036854775807 by omega)]
      rw [chk_dec (by simp; omega), runD_succ h l hk]
    · unfold spec_RunDeeds_L4
      simp only [Int.lt_irrefl, decide_false, cond_false]
      rw [hi, List.take_length]
  · rw [if_neg h200]
    obtain ⟨m, rfl⟩ : ∃ m, n = m + 1 := ⟨n - 1, by omega⟩
    rw [loopN_succ]
    unfold spec_RunDeeds_L4
    rw [decide_eq_true (show (0 : Int) < (l.length : Int) by omega), decide_eq_false (show ¬ (l.length : Int) ≤ 200 by omega)]
    rfl
theorem own_ints (n : Nat) (l : List Int) (hl : l.length ≤ 1048576) : impl_own_int n l = some l := by
  unfold impl_own_int
  rw [chk_dec (by omega), chk_dec (by omega), chk_dec (by omega)]
theorem runs_impl {n : Nat} (h : SHouse) (l : List SDeed) (h1 : h.Lots.length ≤ 1048576) (h2 : h.Traders.length ≤ 1048576) (hl : l.length ≤ 1048576) (hn : 1000000000 < n) : impl_RunDeeds n h l = some (runsD h l) := by
  unfold impl_RunDeeds runsD
  rw [own_house n h (by omega) (by omega), Option.bind_some]
  by_cases h200 : l.length ≤ 200
  · rw [if_pos h200, decide_eq_false (show ¬ (l.length : Int) > 200 by omega), cond_false]
    unfold impl_RunDeeds_k1
    refine loop_runS (S := SHouse × List Int) (X := Int × Int × List SLot × List STrader × List Int) (enc := fun i s => (i, s.1.Taken, s.1.Lots, s.1.Traders, s.2)) (len := l.length) (I := fun k s => s = runD h (l.take k)) (Q := fun r => r = some (runD h l)) (fun k s J hk hi => ?_) (fun s J hi => ?_) (n := n) (by omega) (s0 := (h, [])) rfl
    · refine ⟨runD h (l.take (k + 1)), rfl, ?_⟩
      obtain ⟨g1, g2, g3⟩ := runD_len h l k (by omega)
      subst hi
      unfold impl_RunDeeds_L6 impl_RunDeeds_k0
      have hd : impl_DoDeed n (⟨(runD h (l.take k)).1.Lots, (runD h (l.take k)).1.Traders, (runD h (l.take k)).1.Taken⟩ : SHouse) (l.getD k dSDeed) = some (doD (runD h (l.take k)).1 (l.getD k dSDeed)) := do_impl _ _ (by dsimp only; omega) (by dsimp only; omega) hn
      simp only [Int.ofNat_lt, hk, decide_true, cond_true, ix_nat hk, bd_eq, Int.toNat_natCast, hd, Option.bind_some, w64_succ (show k < 9223372036854775807 by omega)]
      rw [chk_dec (by simp; omega), runD_succ h l hk]
    · unfold impl_RunDeeds_L6
      simp only [Int.lt_irrefl, decide_false, cond_false]
      have g := runD_len h l l.length (Nat.le_refl _)
      rw [List.take_length] at g hi
      subst hi
      rw [own_ints n _ (by omega)]
      rfl
  · rw [if_neg h200, decide_eq_true (show (l.length : Int) > 200 by omega), cond_true]
theorem runsD_len (h : SHouse) (l : List SDeed) : (runsD h l).1.Lots.length ≤ h.Lots.length + 200 ∧ (runsD h l).1.Traders.length = h.Traders.length ∧ (runsD h l).2.length ≤ 200 := by
  unfold runsD
  by_cases h200 : l.length ≤ 200
  · rw [if_pos h200]
    have g := runD_len h l l.length (Nat.le_refl _)
    rw [List.take_length] at g
    exact ⟨by omega, g.2.1, by omega⟩
  · rw [if_neg h200]; exact ⟨Nat.le_add_right _ _, rfl, Nat.zero_le _⟩
theorem laws_FnExactRunDeeds_true (aH0 : SHouse) (aList1 : List SDeed) (h0 : wfSHouse aH0) (h1 : (aList1.length ≤ 9223372036854775807 ∧ ∀ y ∈ aList1, wfSDeed y)) : ∃ n, laws_FnExactRunDeeds n aH0 aList1 = some true := by
  refine ⟨1000000001, ?_⟩
  generalize hN : (1000000001 : Nat) = n
  have hn : 1000000000 < n := by omega
  unfold laws_FnExactRunDeeds
  rw [laws_szHouse_ok (n := n) aH0 (left := 1048576) h0 (by omega) (by omega) hn, Option.bind_some]
  refine guard_sz fun hw => ?_
  rw [if_pos (by omega), laws_szDeedS_ok (n := n) aList1 (left := 1048576 - (w_SHouse aH0 : Int)) h1 (by omega) (by omega) hn, Option.bind_some]
  by_cases hw2 : (w_LSDeed aList1 : Int) ≤ 1048576 - (w_SHouse aH0 : Int)
  · rw [if_pos hw2, decide_eq_false (by omega), cond_false]
    have w1 : w_SHouse aH0 = aH0.Lots.length + aH0.Traders.length := rfl
    have w3 : w_LSDeed aList1 = aList1.length := rfl
    have hS := runs_spec (n := n) aH0 aList1 (by omega) (by omega) (by omega) hn
    have hI := runs_impl (n := n) aH0 aList1 (by omega) (by omega) (by omega) hn
    obtain ⟨c1, c2, c3⟩ := runsD_len aH0 aList1
    generalize runsD aH0 aList1 = R at *
    obtain ⟨R1, R2⟩ := R
    dsimp only at c1 c2 c3
    have w2 : w_SHouse R1 = R1.Lots.length + R1.Traders.length := rfl
    have w4 : w_LInt R2 = R2.length := rfl
    have n1 := n_LSLot_eq aH0.Lots
    have n2 := n_LSTrader_eq aH0.Traders
    have n3 := n_LSLot_eq R1.Lots
    have n4 := n_LSTrader_eq R1.Traders
    have n5 := n_LSDeed_le aList1
    have n6 := n_LInt_le R2
    obtain ⟨u1, u2, m1, _⟩ := laws_markHouse_ok (n := n) aH0 1 (by omega) (by omega) (by omega) hn
    obtain ⟨u3, m2⟩ := laws_markDeedS_ok (n := n) aList1 (1 + ((n_LSLot aH0.Lots + n_LSTrader aH0.Traders : Nat) : Int)) (by omega) (by omega) (by omega) hn
    obtain ⟨v1, v2, p1, p2⟩ := laws_markHouse_ok (n := n) R1 1 (by omega) (by omega) (by omega) hn
    have p3 := p2 ⟨v1, v2, R1.Taken⟩ rfl rfl
    obtain ⟨v3, p4, p5⟩ := laws_markIntS_ok (n := n) R2 (1 + ((n_LSLot R1.Lots + n_LSTrader R1.Traders : Nat) : Int)) (by omega) (by omega) (by omega) hn
    have d1 : decide (1 + ((n_LSLot aH0.Lots + n_LSTrader aH0.Traders : Nat) : Int) + ((n_LSDeed aList1 : Nat) : Int) < 0) = false := decide_eq_false (by omega)
    have d2 : decide (1 + ((n_LSLot R1.Lots + n_LSTrader R1.Traders : Nat) : Int) < 0) = false := decide_eq_false (by omega)
    have d3 : decide (1 + ((n_LSLot R1.Lots + n_LSTrader R1.Traders : Nat) : Int) + ((n_LInt R2 : Nat) : Int) < 0) = false := decide_eq_false (by omega)
    have e1 : (⟨aH0.Lots, aH0.Traders, aH0.Taken⟩ : SHouse) = aH0 := rfl
    have e2 : (⟨R1.Lots, R1.Traders, R1.Taken⟩ : SHouse) = R1 := rfl
    unfold laws_FnExactRunDeeds_k5 laws_FnExactRunDeeds_k4 laws_FnExactRunDeeds_k3 laws_FnExactRunDeeds_k2 laws_FnExactRunDeeds_k1 laws_FnExactRunDeeds_k0
    simp only [laws_toHouse_ok aH0 (show _ ≤ 100000000 by omega) hn, laws_toDeedS_ok aList1 (show _ ≤ 100000000 by omega) hn, hS, hI, Option.bind_some, laws_eqHouse_ok aH0 (show _ ≤ 100000000 by omega) hn, laws_eqHouse_ok R1 (show _ ≤ 100000000 by omega) hn, laws_eqDeedS_ok aList1 (show _ ≤ 100000000 by omega) hn, laws_eqIntS_ok R2 (show _ ≤ 100000000 by omega) hn,
      e1, e2, m1, m2, p1, p3, p4, p5, d1, d2, d3, decide_true, beq_self_eq_true, Bool.not_true, cond_false, cond_true]
  · rw [if_neg hw2]; rfl
end Go.Sm
end
