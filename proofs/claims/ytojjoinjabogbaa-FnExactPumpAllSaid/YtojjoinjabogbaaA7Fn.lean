import Derived.Test.YtojjoinjabogbaaEngA
/- The functions as plain functions over data, and that the law answers true for all arguments. Proved here: laws.FnExactPumpAll returns true for every list of tanks and every list of pumps, and leaves its arguments as they were; no conditions. -/
section
set_option linter.unusedSimpArgs false
set_option linter.deprecated false
set_option linter.unusedSectionVars false
set_option linter.unusedVariables false
namespace Go.Sm
structure SFuel where
  Has : Int
  Most : Int
structure SPump where
  From : Int
  To : Int
  Many : Int
def dSFuel : SFuel := ⟨(0 : Int), (0 : Int)⟩
def dSPump : SPump := ⟨(0 : Int), (0 : Int), (0 : Int)⟩
def laws_szFuelS (n : Nat) (a0 : List SFuel) (left1 : Int) : Option Int :=
  (bd (w64 (left1 - (a0.length : Int))) fun (v1 : Int) => (bif (decide (v1 < (0 : Int))) then some ((-1 : Int)) else some (v1)))
def laws_szPumpS (n : Nat) (a0 : List SPump) (left1 : Int) : Option Int :=
  (bd (w64 (left1 - (a0.length : Int))) fun (v1 : Int) => (bif (decide (v1 < (0 : Int))) then some ((-1 : Int)) else some (v1)))
def laws_toFuel (n : Nat) (a0 : SFuel) : Option SFuel :=
  some (a0)
def laws_toFuelS_L3 {R : Type} (n : Nat) (kx0 : List SFuel → Option R) (J : Int → List SFuel → Option R) (a1 : List SFuel) (i2 : Int) (out3 : List SFuel) : Option R :=
  (bif (decide (i2 < (a1.length : Int))) then ix i2 a1.length ((bd (a1.getD i2.toNat dSFuel) fun (e8 : SFuel) => (laws_toFuel n e8).bind fun r9 => ix i2 out3.length (chk (decide (i2.toNat < out3.length)) (J (w64 (i2 + (1 : Int))) (out3.set i2.toNat r9))))) else kx0 out3)
def laws_toFuelS (n : Nat) (a0 : List SFuel) : Option (List SFuel) :=
  chk (decide ((0 : Int) ≤ (a0.length : Int))) (chk (decide ((a0.length : Int) ≤ (a0.length : Int))) (chk (decide ((a0.length : Int) ≤ 9223372036854775807 ∧ (a0.length : Int) * (16 : Int) ≤ 281474976710656)) (loopN (fun (x : Int × List SFuel) J' => laws_toFuelS_L3 n (fun out10 => some (out10)) (fun i11 out12 => J' (i11, out12)) a0 x.1 x.2) n ((0 : Int), (List.replicate (a0.length : Int).toNat dSFuel)))))
def laws_toPump (n : Nat) (a0 : SPump) : Option SPump :=
  some (a0)
def laws_toPumpS_L3 {R : Type} (n : Nat) (kx0 : List SPump → Option R) (J : Int → List SPump → Option R) (a1 : List SPump) (i2 : Int) (out3 : List SPump) : Option R :=
  (bif (decide (i2 < (a1.length : Int))) then ix i2 a1.length ((bd (a1.getD i2.toNat dSPump) fun (e8 : SPump) => (laws_toPump n e8).bind fun r9 => ix i2 out3.length (chk (decide (i2.toNat < out3.length)) (J (w64 (i2 + (1 : Int))) (out3.set i2.toNat r9))))) else kx0 out3)
def laws_toPumpS (n : Nat) (a0 : List SPump) : Option (List SPump) :=
  chk (decide ((0 : Int) ≤ (a0.length : Int))) (chk (decide ((a0.length : Int) ≤ (a0.length : Int))) (chk (decide ((a0.length : Int) ≤ 9223372036854775807 ∧ (a0.length : Int) * (24 : Int) ≤ 281474976710656)) (loopN (fun (x : Int × List SPump) J' => laws_toPumpS_L3 n (fun out10 => some (out10)) (fun i11 out12 => J' (i11, out12)) a0 x.1 x.2) n ((0 : Int), (List.replicate (a0.length : Int).toNat dSPump)))))
def spec_l1In (n : Nat) (x0 : Int) (a1 : Int) (b2 : Int) : Option Bool :=
  (bif (decide (x0 ≥ a1)) then some ((decide (x0 ≤ b2))) else some (false))
def spec_l10Fuels_k0 {R : Type} (n : Nat) (kx0 : Option R) (kxr : Bool → Option R) (J : Int → Option R) (tanks1 : List SFuel) (i3 : Int) : Option R :=
  ix i3 tanks1.length ((bd (tanks1.getD i3.toNat dSFuel) fun (e4 : SFuel) => ix i3 tanks1.length ((bd (tanks1.getD i3.toNat dSFuel) fun (e5 : SFuel) => (spec_l1In n e4.Has (0 : Int) e5.Most).bind fun r6 => (bif (!r6) then kxr false else ix i3 tanks1.length ((bd (tanks1.getD i3.toNat dSFuel) fun (e8 : SFuel) => (bif (decide (e8.Most > (1000000 : Int))) then kxr false else J (w64 (i3 + (1 : Int)))))))))))
def spec_l10Fuels_L2 {R : Type} (n : Nat) (kx0 : Option R) (kxr : Bool → Option R) (J : Int → Option R) (tanks1 : List SFuel) (i2 : Int) : Option R :=
  (bif (decide (i2 < (tanks1.length : Int))) then spec_l10Fuels_k0 n kx0 kxr J tanks1 i2 else kx0)
def spec_l10Fuels (n : Nat) (tanks0 : List SFuel) : Option Bool :=
  loopN (fun (x : Int) J' => spec_l10Fuels_L2 n (some ((decide ((tanks0.length : Int) ≤ (8 : Int))))) (fun t13 => some (t13)) J' tanks0 x) n ((0 : Int))
def spec_Pumped_k0 (n : Nat)  (p1 : SPump) (t13 : List SFuel) : Option (List SFuel × Int) :=
  (bif (decide (p1.To ≥ (0 : Int))) then ix p1.To t13.length (chk (decide (p1.To.toNat < t13.length)) ((bd (w64 ((t13.getD p1.To.toNat dSFuel).Has + p1.Many)) fun (v14 : Int) => ix p1.To t13.length (chk (decide (p1.To.toNat < t13.length)) ((bd (t13.getD p1.To.toNat dSFuel) fun (e15 : SFuel) => (bd (t13.set p1.To.toNat (⟨v14, e15.Most⟩ : SFuel)) fun (l16 : List SFuel) => some (l16, (0 : Int))))))))) else some (t13, (0 : Int)))
def spec_Pumped_k1 (n : Nat)  (p1 : SPump) (tanks0 : List SFuel) : Option (List SFuel × Int) :=
  (bif (decide (p1.To ≥ (0 : Int))) then ix p1.To tanks0.length (chk (decide (p1.To.toNat < tanks0.length)) ((bd (w64 ((tanks0.getD p1.To.toNat dSFuel).Has + p1.Many)) fun (v19 : Int) => ix p1.To tanks0.length (chk (decide (p1.To.toNat < tanks0.length)) ((bd (tanks0.getD p1.To.toNat dSFuel) fun (e20 : SFuel) => (bd (tanks0.set p1.To.toNat (⟨v19, e20.Most⟩ : SFuel)) fun (l21 : List SFuel) => some (l21, (0 : Int))))))))) else some (tanks0, (0 : Int)))
def spec_Pumped_k2 (n : Nat)  (p1 : SPump) (tanks0 : List SFuel) : Option (List SFuel × Int) :=
  (bif (decide (p1.From ≥ (0 : Int))) then ix p1.From tanks0.length (chk (decide (p1.From.toNat < tanks0.length)) ((bd (w64 ((tanks0.getD p1.From.toNat dSFuel).Has - p1.Many)) fun (v10 : Int) => ix p1.From tanks0.length (chk (decide (p1.From.toNat < tanks0.length)) ((bd (tanks0.getD p1.From.toNat dSFuel) fun (e11 : SFuel) => (bd (tanks0.set p1.From.toNat (⟨v10, e11.Most⟩ : SFuel)) fun (l12 : List SFuel) => spec_Pumped_k0 n  p1 l12))))))) else spec_Pumped_k1 n  p1 tanks0)
def spec_Pumped_k3 (n : Nat)  (p1 : SPump) (tanks0 : List SFuel) : Option (List SFuel × Int) :=
  (bif (decide (p1.To ≥ (0 : Int))) then ix p1.To tanks0.length (chk (decide (p1.To.toNat < tanks0.length)) ((bd (w64 ((tanks0.getD p1.To.toNat dSFuel).Has + p1.Many)) fun (v8 : Int) => ix p1.To tanks0.length (chk (decide (p1.To.toNat < tanks0.length)) ((bif (decide (v8 > (tanks0.getD p1.To.toNat dSFuel).Most)) then some (tanks0, (3 : Int)) else spec_Pumped_k2 n  p1 tanks0)))))) else spec_Pumped_k2 n  p1 tanks0)
def spec_Pumped_k4 (n : Nat)  (p1 : SPump) (tanks0 : List SFuel) : Option (List SFuel × Int) :=
  (bif (decide (p1.From ≥ (0 : Int))) then ix p1.From tanks0.length (chk (decide (p1.From.toNat < tanks0.length)) ((bif (decide ((tanks0.getD p1.From.toNat dSFuel).Has < p1.Many)) then some (tanks0, (2 : Int)) else spec_Pumped_k3 n  p1 tanks0))) else spec_Pumped_k3 n  p1 tanks0)
def spec_Pumped (n : Nat) (tanks0 : List SFuel) (p1 : SPump) : Option (List SFuel × Int) :=
  chk (decide (tanks0.length * 16 ≤ 140737488355328)) ((bd (w64 ((tanks0.length : Int) - (1 : Int))) fun (v1 : Int) => (spec_l10Fuels n tanks0).bind fun r2 => (bif (!r2) then some (tanks0, (1 : Int)) else (spec_l1In n p1.From (-1 : Int) v1).bind fun r3 => (bif (!r3) then some (tanks0, (1 : Int)) else (spec_l1In n p1.To (-1 : Int) v1).bind fun r4 => (bif (!r4) then some (tanks0, (1 : Int)) else (bif (decide (p1.From = p1.To)) then some (tanks0, (1 : Int)) else (spec_l1In n p1.Many (1 : Int) (1000000 : Int)).bind fun r5 => (bif (!r5) then some (tanks0, (1 : Int)) else spec_Pumped_k4 n  p1 tanks0)))))))
def spec_PumpAll_k0 {R : Type} (n : Nat) (kx0 : Int → Int → List SFuel → List Int → Option R) (J : Int → Int → Int → List SFuel → List Int → Option R) (pumps1 : List SPump) (came30 : Int) (went31 : Int) (i32 : Int) (code33 : Int) (t34 : List SFuel) (codes35 : List Int) : Option R :=
  (bif (decide (code33 = (0 : Int))) then ix i32 pumps1.length ((bd (pumps1.getD i32.toNat dSPump) fun (e36 : SPump) => (bif (decide (e36.To < (0 : Int))) then ix i32 pumps1.length ((bd (pumps1.getD i32.toNat dSPump) fun (e55 : SPump) => (bd (w64 (went31 + e55.Many)) fun (v56 : Int) => J came30 v56 (w64 (i32 + (1 : Int))) t34 codes35))) else J came30 went31 (w64 (i32 + (1 : Int))) t34 codes35))) else J came30 went31 (w64 (i32 + (1 : Int))) t34 codes35)
def spec_PumpAll_k1 {R : Type} (n : Nat) (kx0 : Int → Int → List SFuel → List Int → Option R) (J : Int → Int → Int → List SFuel → List Int → Option R) (pumps1 : List SPump) (came21 : Int) (went22 : Int) (i23 : Int) (code24 : Int) (t25 : Bool) (t26 : List SFuel) (codes27 : List Int) : Option R :=
  (bif t25 then ix i23 pumps1.length ((bd (pumps1.getD i23.toNat dSPump) fun (e28 : SPump) => (bd (w64 (came21 + e28.Many)) fun (v29 : Int) => spec_PumpAll_k0 n kx0 J pumps1 v29 went22 i23 code24 t26 codes27))) else spec_PumpAll_k0 n kx0 J pumps1 came21 went22 i23 code24 t26 codes27)
def spec_PumpAll_k2 {R : Type} (n : Nat) (kx0 : Int → Int → List SFuel → List Int → Option R) (J : Int → Int → Int → List SFuel → List Int → Option R) (pumps1 : List SPump) (came13 : Int) (went14 : Int) (i15 : Int) (out16 : List SFuel) (codes17 : List Int) : Option R :=
  ix i15 pumps1.length ((bd (pumps1.getD i15.toNat dSPump) fun (e18 : SPump) => (spec_Pumped n out16 e18).bind fun r19 => chk (decide ((codes17 ++ [r19.2]).length * 8 ≤ 140737488355328)) ((bif (decide (r19.2 = (0 : Int))) then ix i15 pumps1.length ((bd (pumps1.getD i15.toNat dSPump) fun (e20 : SPump) => spec_PumpAll_k1 n kx0 J pumps1 came13 went14 i15 r19.2 (decide (e20.From < (0 : Int))) r19.1 (codes17 ++ [r19.2]))) else spec_PumpAll_k0 n kx0 J pumps1 came13 went14 i15 r19.2 r19.1 (codes17 ++ [r19.2])))))
def spec_PumpAll_L5 {R : Type} (n : Nat) (kx0 : Int → Int → List SFuel → List Int → Option R) (J : Int → Int → Int → List SFuel → List Int → Option R) (pumps1 : List SPump) (came2 : Int) (went3 : Int) (i4 : Int) (out5 : List SFuel) (codes6 : List Int) : Option R :=
  (bif (decide (i4 < (pumps1.length : Int))) then (bif (decide ((pumps1.length : Int) ≤ (60 : Int))) then spec_PumpAll_k2 n kx0 J pumps1 came2 went3 i4 out5 codes6 else kx0 came2 went3 out5 codes6) else kx0 came2 went3 out5 codes6)
def spec_PumpAll (n : Nat) (tanks0 : List SFuel) (pumps1 : List SPump) : Option (List SFuel × List Int × Int × Int) :=
  chk (decide (tanks0.length * 16 ≤ 140737488355328)) (loopN (fun (x : Int × Int × Int × List SFuel × List Int) J' => spec_PumpAll_L5 n (fun came116 went117 out118 codes119 => some (out118, codes119, came116, went117)) (fun came120 went121 i122 out123 codes124 => J' (came120, went121, i122, out123, codes124)) pumps1 x.1 x.2.1 x.2.2.1 x.2.2.2.1 x.2.2.2.2) n ((0 : Int), (0 : Int), (0 : Int), tanks0, []))
def impl_own_impl_Fuel (n : Nat) (l0 : List SFuel) : Option (List SFuel) :=
  chk (decide ((0 : Int) ≤ (l0.length : Int))) (chk (decide ((l0.length : Int) ≤ 9223372036854775807 ∧ (l0.length : Int) * (16 : Int) ≤ 281474976710656)) (chk (decide (l0.length * 16 ≤ 140737488355328)) (some (l0))))
def impl_in (n : Nat) (n0 : Int) (least1 : Int) (most2 : Int) : Option Bool :=
  (bif (decide (n0 ≥ least1)) then some ((decide (n0 ≤ most2))) else some (false))
def impl_tanksRight_1 (n : Nat) (t0 : SFuel) : Option Bool :=
  (impl_in n t0.Has (0 : Int) t0.Most).bind fun r1 => (bif (!r1) then some (true) else some ((decide (t0.Most > (1000000 : Int)))))
def slices_IndexFunc_impl_Fuel_impl_Fuel__impl_tanksRight_1_L2 {R : Type} (n : Nat) (kx0 : Option R) (kxr : Int → Option R) (J : Int → Option R) (s1 : List SFuel) (t2 : Int) (t3 : Int) : Option R :=
  (bif (decide (t3 < t2)) then ix t3 s1.length ((bd (s1.getD t3.toNat dSFuel) fun (e8 : SFuel) => (impl_tanksRight_1 n e8).bind fun r9 => (bif r9 then kxr t3 else J (w64 (t3 + (1 : Int)))))) else kx0)
def slices_IndexFunc_impl_Fuel_impl_Fuel__impl_tanksRight_1 (n : Nat) (s0 : List SFuel) : Option Int :=
  loopN (fun (x : Int) J' => slices_IndexFunc_impl_Fuel_impl_Fuel__impl_tanksRight_1_L2 n (some ((-1 : Int))) (fun t11 => some (t11)) J' s0 (s0.length : Int) x) n ((0 : Int))
def slices_ContainsFunc_impl_Fuel_impl_Fuel__impl_tanksRight_1 (n : Nat) (s0 : List SFuel) : Option Bool :=
  (slices_IndexFunc_impl_Fuel_impl_Fuel__impl_tanksRight_1 n s0).bind fun r1 => some ((decide (r1 ≥ (0 : Int))))
def impl_tanksRight (n : Nat) (tanks0 : List SFuel) : Option Bool :=
  (bif (decide ((tanks0.length : Int) ≤ (8 : Int))) then (slices_ContainsFunc_impl_Fuel_impl_Fuel__impl_tanksRight_1 n tanks0).bind fun r1 => some ((!r1)) else some (false))
def impl_Pumped_k0 (n : Nat)  (p1 : SPump) (t22 : List SFuel) : Option (List SFuel × Int) :=
  (bif (decide (p1.To ≥ (0 : Int))) then ix p1.To t22.length (chk (decide (p1.To.toNat < t22.length)) ((bd (w64 ((t22.getD p1.To.toNat dSFuel).Has + p1.Many)) fun (v23 : Int) => ix p1.To t22.length (chk (decide (p1.To.toNat < t22.length)) ((bd (t22.getD p1.To.toNat dSFuel) fun (e24 : SFuel) => (bd (t22.set p1.To.toNat (⟨v23, e24.Most⟩ : SFuel)) fun (l25 : List SFuel) => some (l25, (0 : Int))))))))) else some (t22, (0 : Int)))
def impl_Pumped_k1 (n : Nat)  (p1 : SPump) (t18 : List SFuel) : Option (List SFuel × Int) :=
  (bif (decide (p1.From ≥ (0 : Int))) then ix p1.From t18.length (chk (decide (p1.From.toNat < t18.length)) ((bd (w64 ((t18.getD p1.From.toNat dSFuel).Has - p1.Many)) fun (v19 : Int) => ix p1.From t18.length (chk (decide (p1.From.toNat < t18.length)) ((bd (t18.getD p1.From.toNat dSFuel) fun (e20 : SFuel) => (bd (t18.set p1.From.toNat (⟨v19, e20.Most⟩ : SFuel)) fun (l21 : List SFuel) => impl_Pumped_k0 n  p1 l21))))))) else impl_Pumped_k0 n  p1 t18)
def impl_Pumped_k2 (n : Nat)  (t13 : Bool) (p1 : SPump) (t14 : List SFuel) : Option (List SFuel × Int) :=
  (bif t13 then some (t14, (2 : Int)) else (bif (decide (p1.To ≥ (0 : Int))) then ix p1.To t14.length (chk (decide (p1.To.toNat < t14.length)) ((bd (w64 ((t14.getD p1.To.toNat dSFuel).Has + p1.Many)) fun (v15 : Int) => ix p1.To t14.length (chk (decide (p1.To.toNat < t14.length)) ((bif (decide (v15 > (t14.getD p1.To.toNat dSFuel).Most)) then some (t14, (3 : Int)) else impl_Pumped_k1 n  p1 t14)))))) else impl_Pumped_k1 n  p1 t14))
def impl_Pumped_k3 (n : Nat)  (p1 : SPump) (t33 : List SFuel) : Option (List SFuel × Int) :=
  (bif (decide (p1.To ≥ (0 : Int))) then ix p1.To t33.length (chk (decide (p1.To.toNat < t33.length)) ((bd (w64 ((t33.getD p1.To.toNat dSFuel).Has + p1.Many)) fun (v34 : Int) => ix p1.To t33.length (chk (decide (p1.To.toNat < t33.length)) ((bif (decide (v34 > (t33.getD p1.To.toNat dSFuel).Most)) then some (t33, (3 : Int)) else impl_Pumped_k1 n  p1 t33)))))) else impl_Pumped_k1 n  p1 t33)
def impl_Pumped (n : Nat) (tanks0 : List SFuel) (p1 : SPump) : Option (List SFuel × Int) :=
  (impl_own_impl_Fuel n tanks0).bind fun r1 => (bd (w64 ((tanks0.length : Int) - (1 : Int))) fun (v2 : Int) => (impl_tanksRight n tanks0).bind fun r3 => (bif (!r3) then some (r1, (1 : Int)) else (impl_in n p1.From (-1 : Int) v2).bind fun r5 => (bif (!r5) then some (r1, (1 : Int)) else (impl_in n p1.To (-1 : Int) v2).bind fun r7 => (bif (!r7) then some (r1, (1 : Int)) else (bif (decide (p1.From = p1.To)) then some (r1, (1 : Int)) else (impl_in n p1.Many (1 : Int) (1000000 : Int)).bind fun r10 => (bif (!r10) then some (r1, (1 : Int)) else (bif (decide (p1.From ≥ (0 : Int))) then ix p1.From r1.length (chk (decide (p1.From.toNat < r1.length)) (impl_Pumped_k2 n  (decide ((r1.getD p1.From.toNat dSFuel).Has < p1.Many)) p1 r1)) else impl_Pumped_k3 n  p1 r1)))))))
def impl_own_int (n : Nat) (l0 : List Int) : Option (List Int) :=
  chk (decide ((0 : Int) ≤ (l0.length : Int))) (chk (decide ((l0.length : Int) ≤ 9223372036854775807 ∧ (l0.length : Int) * (8 : Int) ≤ 281474976710656)) (chk (decide (l0.length * 8 ≤ 140737488355328)) (some (l0))))
def impl_PumpAll_k0 {R : Type} (n : Nat) (kx0 : Int → Int → List SFuel → List Int → Option R) (J : Int → Int → Int → List SFuel → List Int → Option R) (boat26 : Int) (engine27 : Int) (c28 : Int) (t5 : List SPump) (t6 : Int) (t29 : Int) (t30 : List SFuel) (codes31 : List Int) (p32 : SPump) : Option R :=
  (bif (decide (c28 = (0 : Int))) then (bif (decide (p32.To < (0 : Int))) then (bd (w64 (engine27 + p32.Many)) fun (v51 : Int) => J boat26 v51 (w64 (t29 + (1 : Int))) t30 codes31) else J boat26 engine27 (w64 (t29 + (1 : Int))) t30 codes31) else J boat26 engine27 (w64 (t29 + (1 : Int))) t30 codes31)
def impl_PumpAll_k1 {R : Type} (n : Nat) (kx0 : Int → Int → List SFuel → List Int → Option R) (J : Int → Int → Int → List SFuel → List Int → Option R) (boat10 : Int) (engine11 : Int) (t5 : List SPump) (t6 : Int) (t12 : Int) (l13 : List SFuel) (codes14 : List Int) : Option R :=
  ix t12 t5.length ((bd (t5.getD t12.toNat dSPump) fun (e15 : SPump) => (impl_Pumped n l13 e15).bind fun r16 => chk (decide ((codes14 ++ [r16.2]).length * 8 ≤ 140737488355328)) ((bif (decide (r16.2 = (0 : Int))) then (bif (decide (e15.From < (0 : Int))) then (bd (w64 (boat10 + e15.Many)) fun (v85 : Int) => impl_PumpAll_k0 n kx0 J v85 engine11 r16.2 t5 t6 t12 r16.1 (codes14 ++ [r16.2]) e15) else impl_PumpAll_k0 n kx0 J boat10 engine11 r16.2 t5 t6 t12 r16.1 (codes14 ++ [r16.2]) e15) else impl_PumpAll_k0 n kx0 J boat10 engine11 r16.2 t5 t6 t12 r16.1 (codes14 ++ [r16.2]) e15))))
def impl_PumpAll_L7 {R : Type} (n : Nat) (kx0 : Int → Int → List SFuel → List Int → Option R) (J : Int → Int → Int → List SFuel → List Int → Option R) (boat3 : Int) (engine4 : Int) (t5 : List SPump) (t6 : Int) (t7 : Int) (l8 : List SFuel) (codes9 : List Int) : Option R :=
  (bif (decide (t7 < t6)) then impl_PumpAll_k1 n kx0 J boat3 engine4 t5 t6 t7 l8 codes9 else kx0 boat3 engine4 l8 codes9)
def impl_PumpAll_k2 (n : Nat)  (pumps1 : List SPump) (t2 : List SFuel) : Option (List SFuel × List Int × Int × Int) :=
  loopN (fun (x : Int × Int × Int × List SFuel × List Int) J' => impl_PumpAll_L7 n (fun boat121 engine122 l123 codes124 => (impl_own_int n codes124).bind fun r125 => some (l123, r125, boat121, engine122)) (fun boat126 engine127 t128 l129 codes130 => J' (boat126, engine127, t128, l129, codes130)) x.1 x.2.1 pumps1 (pumps1.length : Int) x.2.2.1 x.2.2.2.1 x.2.2.2.2) n ((0 : Int), (0 : Int), (0 : Int), t2, [])
def impl_PumpAll (n : Nat) (tanks0 : List SFuel) (pumps1 : List SPump) : Option (List SFuel × List Int × Int × Int) :=
  (impl_own_impl_Fuel n tanks0).bind fun r1 => (bif (decide ((pumps1.length : Int) > (60 : Int))) then some (r1, [], (0 : Int), (0 : Int)) else impl_PumpAll_k2 n  pumps1 r1)
def laws_eqFuel (n : Nat) (a0 : SFuel) (b1 : SFuel) : Option Bool :=
  (bif (!(decide (a0.Has = b1.Has))) then some (false) else (bif (!(decide (a0.Most = b1.Most))) then some (false) else some (true)))
def laws_eqFuelS_L4 {R : Type} (n : Nat) (kx0 : Option R) (kxr : Bool → Option R) (J : Int → Option R) (a1 : List SFuel) (b2 : List SFuel) (i3 : Int) : Option R :=
  (bif (decide (i3 < (a1.length : Int))) then ix i3 a1.length ((bd (a1.getD i3.toNat dSFuel) fun (e9 : SFuel) => ix i3 b2.length ((bd (b2.getD i3.toNat dSFuel) fun (e10 : SFuel) => (laws_eqFuel n e9 e10).bind fun r11 => (bif (!r11) then kxr false else J (w64 (i3 + (1 : Int)))))))) else kx0)
def laws_eqFuelS (n : Nat) (a0 : List SFuel) (b1 : List SFuel) : Option Bool :=
  (bif (!(decide ((a0.length : Int) = (b1.length : Int)))) then some (false) else loopN (fun (x : Int) J' => laws_eqFuelS_L4 n (some (true)) (fun t15 => some (t15)) J' a0 b1 x) n ((0 : Int)))
def laws_eqIntS_L4 {R : Type} (n : Nat) (kx0 : Option R) (kxr : Bool → Option R) (J : Int → Option R) (a1 : List Int) (b2 : List Int) (i3 : Int) : Option R :=
  (bif (decide (i3 < (a1.length : Int))) then ix i3 a1.length (ix i3 b2.length ((bif (!(decide ((a1.getD i3.toNat (0 : Int)) = (b2.getD i3.toNat (0 : Int))))) then kxr false else J (w64 (i3 + (1 : Int)))))) else kx0)
def laws_eqIntS (n : Nat) (a0 : List Int) (b1 : List Int) : Option Bool :=
  (bif (!(decide ((a0.length : Int) = (b1.length : Int)))) then some (false) else loopN (fun (x : Int) J' => laws_eqIntS_L4 n (some (true)) (fun t9 => some (t9)) J' a0 b1 x) n ((0 : Int)))
def laws_eqPump (n : Nat) (a0 : SPump) (b1 : SPump) : Option Bool :=
  (bif (!(decide (a0.From = b1.From))) then some (false) else (bif (!(decide (a0.To = b1.To))) then some (false) else (bif (!(decide (a0.Many = b1.Many))) then some (false) else some (true))))
def laws_eqPumpS_L4 {R : Type} (n : Nat) (kx0 : Option R) (kxr : Bool → Option R) (J : Int → Option R) (a1 : List SPump) (b2 : List SPump) (i3 : Int) : Option R :=
  (bif (decide (i3 < (a1.length : Int))) then ix i3 a1.length ((bd (a1.getD i3.toNat dSPump) fun (e9 : SPump) => ix i3 b2.length ((bd (b2.getD i3.toNat dSPump) fun (e10 : SPump) => (laws_eqPump n e9 e10).bind fun r11 => (bif (!r11) then kxr false else J (w64 (i3 + (1 : Int)))))))) else kx0)
def laws_eqPumpS (n : Nat) (a0 : List SPump) (b1 : List SPump) : Option Bool :=
  (bif (!(decide ((a0.length : Int) = (b1.length : Int)))) then some (false) else loopN (fun (x : Int) J' => laws_eqPumpS_L4 n (some (true)) (fun t15 => some (t15)) J' a0 b1 x) n ((0 : Int)))
def laws_markFuelS_k0 {R : Type} (n : Nat) (kx0 : Int → List SFuel → Option R) (J : Int → Int → List SFuel → Option R) (k4 : Int) (i5 : Int) (p6 : List SFuel) : Option R :=
  ix i5 p6.length (chk (decide (i5.toNat < p6.length)) ((bd (p6.getD i5.toNat dSFuel) fun (e7 : SFuel) => (bd (p6.set i5.toNat (⟨k4, e7.Most⟩ : SFuel)) fun (l8 : List SFuel) => ix i5 l8.length (chk (decide (i5.toNat < l8.length)) ((bd (l8.getD i5.toNat dSFuel) fun (e9 : SFuel) => (bd (l8.set i5.toNat (⟨e9.Has, (w64 (k4 + (1 : Int)))⟩ : SFuel)) fun (l10 : List SFuel) => (bd (w64 ((w64 (k4 + (1 : Int))) + (1 : Int))) fun (v11 : Int) => J v11 (w64 (i5 + (1 : Int))) l10)))))))))
def laws_markFuelS_L2 {R : Type} (n : Nat) (kx0 : Int → List SFuel → Option R) (J : Int → Int → List SFuel → Option R) (k1 : Int) (i2 : Int) (p3 : List SFuel) : Option R :=
  (bif (decide (i2 < (p3.length : Int))) then laws_markFuelS_k0 n kx0 J k1 i2 p3 else kx0 k1 p3)
def laws_markFuelS (n : Nat) (a0 : List SFuel) (k1 : Int) : Option (Int × List SFuel) :=
  loopN (fun (x : Int × Int × List SFuel) J' => laws_markFuelS_L2 n (fun k12 p13 => some (k12, p13)) (fun k14 i15 p16 => J' (k14, i15, p16)) x.1 x.2.1 x.2.2) n (k1, (0 : Int), a0)
def laws_markPumpS_k0 {R : Type} (n : Nat) (kx0 : Int → List SPump → Option R) (J : Int → Int → List SPump → Option R) (k4 : Int) (i5 : Int) (p6 : List SPump) : Option R :=
  ix i5 p6.length (chk (decide (i5.toNat < p6.length)) ((bd (p6.getD i5.toNat dSPump) fun (e7 : SPump) => (bd (p6.set i5.toNat (⟨k4, e7.To, e7.Many⟩ : SPump)) fun (l8 : List SPump) => ix i5 l8.length (chk (decide (i5.toNat < l8.length)) ((bd (l8.getD i5.toNat dSPump) fun (e9 : SPump) => (bd (l8.set i5.toNat (⟨e9.From, (w64 (k4 + (1 : Int))), e9.Many⟩ : SPump)) fun (l10 : List SPump) => (bd (w64 ((w64 (k4 + (1 : Int))) + (1 : Int))) fun (v11 : Int) => ix i5 l10.length (chk (decide (i5.toNat < l10.length)) ((bd (l10.getD i5.toNat dSPump) fun (e12 : SPump) => (bd (l10.set i5.toNat (⟨e12.From, e12.To, v11⟩ : SPump)) fun (l13 : List SPump) => J (w64 (v11 + (1 : Int))) (w64 (i5 + (1 : Int))) l13)))))))))))))
def laws_markPumpS_L2 {R : Type} (n : Nat) (kx0 : Int → List SPump → Option R) (J : Int → Int → List SPump → Option R) (k1 : Int) (i2 : Int) (p3 : List SPump) : Option R :=
  (bif (decide (i2 < (p3.length : Int))) then laws_markPumpS_k0 n kx0 J k1 i2 p3 else kx0 k1 p3)
def laws_markPumpS (n : Nat) (a0 : List SPump) (k1 : Int) : Option (Int × List SPump) :=
  loopN (fun (x : Int × Int × List SPump) J' => laws_markPumpS_L2 n (fun k14 p15 => some (k14, p15)) (fun k16 i17 p18 => J' (k16, i17, p18)) x.1 x.2.1 x.2.2) n (k1, (0 : Int), a0)
def laws_markIntS_L2 {R : Type} (n : Nat) (kx0 : Int → List Int → Option R) (J : Int → Int → List Int → Option R) (k1 : Int) (i2 : Int) (p3 : List Int) : Option R :=
  (bif (decide (i2 < (p3.length : Int))) then ix i2 p3.length (chk (decide (i2.toNat < p3.length)) (J (w64 (k1 + (1 : Int))) (w64 (i2 + (1 : Int))) (p3.set i2.toNat k1))) else kx0 k1 p3)
def laws_markIntS (n : Nat) (a0 : List Int) (k1 : Int) : Option (Int × List Int) :=
  loopN (fun (x : Int × Int × List Int) J' => laws_markIntS_L2 n (fun k7 p8 => some (k7, p8)) (fun k9 i10 p11 => J' (k9, i10, p11)) x.1 x.2.1 x.2.2) n (k1, (0 : Int), a0)
def laws_heldFuelS_k0 {R : Type} (n : Nat) (kx0 : Int → Option R) (kxr : Int → Option R) (J : Int → Int → Option R) (a1 : List SFuel) (k4 : Int) (i5 : Int) : Option R :=
  ix i5 a1.length ((bd (a1.getD i5.toNat dSFuel) fun (e6 : SFuel) => (bif (!(decide (e6.Has = k4))) then kxr (-1 : Int) else ix i5 a1.length ((bd (a1.getD i5.toNat dSFuel) fun (e17 : SFuel) => (bif (!(decide (e17.Most = (w64 (k4 + (1 : Int)))))) then kxr (-1 : Int) else (bd (w64 ((w64 (k4 + (1 : Int))) + (1 : Int))) fun (v20 : Int) => J v20 (w64 (i5 + (1 : Int))))))))))
def laws_heldFuelS_L2 {R : Type} (n : Nat) (kx0 : Int → Option R) (kxr : Int → Option R) (J : Int → Int → Option R) (a1 : List SFuel) (k2 : Int) (i3 : Int) : Option R :=
  (bif (decide (i3 < (a1.length : Int))) then laws_heldFuelS_k0 n kx0 kxr J a1 k2 i3 else kx0 k2)
def laws_heldFuelS (n : Nat) (a0 : List SFuel) (k1 : Int) : Option Int :=
  loopN (fun (x : Int × Int) J' => laws_heldFuelS_L2 n (fun k23 => some (k23)) (fun t24 => some (t24)) (fun k25 i26 => J' (k25, i26)) a0 x.1 x.2) n (k1, (0 : Int))
def laws_heldIntS_L2 {R : Type} (n : Nat) (kx0 : Int → Option R) (kxr : Int → Option R) (J : Int → Int → Option R) (a1 : List Int) (k2 : Int) (i3 : Int) : Option R :=
  (bif (decide (i3 < (a1.length : Int))) then ix i3 a1.length ((bif (!(decide ((a1.getD i3.toNat (0 : Int)) = k2))) then kxr (-1 : Int) else J (w64 (k2 + (1 : Int))) (w64 (i3 + (1 : Int))))) else kx0 k2)
def laws_heldIntS (n : Nat) (a0 : List Int) (k1 : Int) : Option Int :=
  loopN (fun (x : Int × Int) J' => laws_heldIntS_L2 n (fun k16 => some (k16)) (fun t17 => some (t17)) (fun k18 i19 => J' (k18, i19)) a0 x.1 x.2) n (k1, (0 : Int))
def laws_FnExactPumpAll_k0 (n : Nat)  (m169 : Int) (t170 : Bool) (t171 : List SFuel) (t172 : List Int) : Option Bool :=
  (bif t170 then some (false) else (laws_heldFuelS n t171 (1 : Int)).bind fun r186 => (bif (decide (r186 < (0 : Int))) then some (false) else (laws_heldIntS n t172 r186).bind fun r190 => (bif (decide (r190 < (0 : Int))) then some (false) else (bif (!(decide (r190 = m169))) then some (false) else some (true)))))
def laws_FnExactPumpAll_k1 (n : Nat)  (aTanks0 : List SFuel) (aPumps1 : List SPump) (w2148 : Int) (w3149 : Int) (m150 : Int) (t151 : List SFuel) (t152 : List Int) (t153 : List SFuel) (t154 : List Int) : Option Bool :=
  (laws_toFuelS n aTanks0).bind fun r155 => (laws_toPumpS n aPumps1).bind fun r156 => (impl_PumpAll n r155 r156).bind fun r157 => (laws_eqFuelS n r157.1 t151).bind fun r158 => (bif (!r158) then some (false) else (laws_eqIntS n r157.2.1 t152).bind fun r162 => (bif (!r162) then some (false) else (bif (!(decide (r157.2.2.1 = w2148))) then some (false) else laws_FnExactPumpAll_k0 n  m150 (!(decide (r157.2.2.2 = w3149))) t153 t154)))
def laws_FnExactPumpAll_k2 (n : Nat)  (aTanks0 : List SFuel) (aPumps1 : List SPump) (w2122 : Int) (w3123 : Int) (t124 : List SFuel) (t125 : List Int) (t126 : List SFuel) (t127 : List Int) : Option Bool :=
  (laws_markFuelS n t126 (1 : Int)).bind fun r128 => (laws_markIntS n t127 r128.1).bind fun r129 => (laws_heldFuelS n r128.2 (1 : Int)).bind fun r130 => (bif (decide (r130 < (0 : Int))) then some (false) else (laws_heldIntS n r129.2 r130).bind fun r200 => (bif (decide (r200 < (0 : Int))) then some (false) else (bif (!(decide (r200 = r129.1))) then some (false) else laws_FnExactPumpAll_k1 n  aTanks0 aPumps1 w2122 w3123 r129.1 t124 t125 r128.2 r129.2)))
def laws_FnExactPumpAll_k3 (n : Nat)  (aTanks0 : List SFuel) (aPumps1 : List SPump) (w277 : Int) (w378 : Int) (g279 : Int) (g380 : Int) (t81 : List SFuel) (t82 : List Int) (t83 : List SFuel) (t84 : List SPump) (t85 : List SFuel) (t86 : List Int) : Option Bool :=
  (laws_markFuelS n t83 (1 : Int)).bind fun r87 => (laws_markPumpS n t84 r87.1).bind fun r88 => (bif (decide (r88.1 < (0 : Int))) then some (false) else (laws_eqFuelS n t85 t81).bind fun r95 => (bif (!r95) then some (false) else (laws_eqIntS n t86 t82).bind fun r102 => (bif (!r102) then some (false) else (bif (!(decide (g279 = w277))) then some (false) else (bif (!(decide (g380 = w378))) then some (false) else laws_FnExactPumpAll_k2 n  aTanks0 aPumps1 w277 w378 t81 t82 t85 t86)))))
def laws_FnExactPumpAll_k4 (n : Nat)  (aTanks0 : List SFuel) (aPumps1 : List SPump) (w253 : Int) (w354 : Int) (g255 : Int) (g356 : Int) (t57 : List SFuel) (t58 : List Int) (t59 : List SFuel) (t60 : List SPump) (t61 : List SFuel) (t62 : List Int) : Option Bool :=
  (laws_toFuelS n aTanks0).bind fun r63 => (laws_eqFuelS n t59 r63).bind fun r64 => (bif (!r64) then some (false) else (laws_toPumpS n aPumps1).bind fun r222 => (laws_eqPumpS n t60 r222).bind fun r223 => (bif (!r223) then some (false) else laws_FnExactPumpAll_k3 n  aTanks0 aPumps1 w253 w354 g255 g356 t57 t58 t59 t60 t61 t62))
def laws_FnExactPumpAll_k5 (n : Nat)  (aTanks0 : List SFuel) (aPumps1 : List SPump) : Option Bool :=
  (laws_toFuelS n aTanks0).bind fun r4 => (laws_toPumpS n aPumps1).bind fun r5 => (spec_PumpAll n r4 r5).bind fun r6 => (laws_toFuelS n aTanks0).bind fun r7 => (laws_toPumpS n aPumps1).bind fun r8 => (impl_PumpAll n r7 r8).bind fun r9 => (laws_eqFuelS n r9.1 r6.1).bind fun r10 => (bif (!r10) then some (false) else (laws_eqIntS n r9.2.1 r6.2.1).bind fun r21 => (bif (!r21) then some (false) else (bif (!(decide (r9.2.2.1 = r6.2.2.1))) then some (false) else (bif (!(decide (r9.2.2.2 = r6.2.2.2))) then some (false) else laws_FnExactPumpAll_k4 n  aTanks0 aPumps1 r6.2.2.1 r6.2.2.2 r9.2.2.1 r9.2.2.2 r6.1 r6.2.1 r7 r8 r9.1 r9.2.1))))
def laws_FnExactPumpAll (n : Nat) (aTanks0 : List SFuel) (aPumps1 : List SPump) : Option Bool :=
  (laws_szFuelS n aTanks0 (1048576 : Int)).bind fun r1 => (bif (decide (r1 < (0 : Int))) then some (true) else (laws_szPumpS n aPumps1 r1).bind fun r244 => (bif (decide (r244 < (0 : Int))) then some (true) else laws_FnExactPumpAll_k5 n  aTanks0 aPumps1))
def rng (a b x : Int) : Prop := a ≤ x ∧ x ≤ b
def wfSFuel (x : SFuel) : Prop := rng (-9223372036854775808) 9223372036854775807 x.Has ∧ rng (-9223372036854775808) 9223372036854775807 x.Most
def wfSPump (x : SPump) : Prop := rng (-9223372036854775808) 9223372036854775807 x.From ∧ rng (-9223372036854775808) 9223372036854775807 x.To ∧ rng (-9223372036854775808) 9223372036854775807 x.Many
end Go.Sm
end

section
set_option linter.unusedSimpArgs false
set_option linter.deprecated false
set_option linter.unusedSectionVars false
set_option linter.unusedVariables false
namespace Go.Sm
/-! ### Of the words that printed functions are made of -/
theorem w64_id {x : Int} (h1 : -9223372036854775808 ≤ x) (h2 : x ≤ 9223372036854775807) : w64 x = x := by
  show (let m := x % (2 ^ 64 : Int); if (true && decide ((2 : Int) ^ 63 ≤ m)) = true then m - 2 ^ 64 else m) = x
  simp only [Bool.true_and, decide_eq_true_eq]
  split <;> omega
theorem w64_rng (x : Int) : -9223372036854775808 ≤ w64 x ∧ w64 x ≤ 9223372036854775807 := by
  show -9223372036854775808 ≤ (let m := x % (2 ^ 64 : Int); if (true && decide ((2 : Int) ^ 63 ≤ m)) = true then m - 2 ^ 64 else m) ∧ (let m := x % (2 ^ 64 : Int); if (true && decide ((2 : Int) ^ 63 ≤ m)) = true then m - 2 ^ 64 else m) ≤ 9223372036854775807
  simp only [Bool.true_and, decide_eq_true_eq]
  split <;> omega
theorem chk_of {R : Type} {b : Bool} {x : Option R} (h : b = true) : chk b x = x := by rw [h]; rfl
theorem chk_dec {R : Type} {p : Prop} [Decidable p] {x : Option R} (h : p) : chk (decide p) x = x := chk_of (decide_eq_true h)
theorem ix_of {R : Type} {i : Int} {len : Nat} {x : Option R} (h0 : 0 ≤ i) (h1 : i < (len : Int)) : ix i len x = x := by
  unfold ix
  rw [decide_eq_true h0, decide_eq_true h1]
  rfl
theorem ix_nat {R : Type} {i len : Nat} {x : Option R} (h1 : i < len) : ix (i : Int) len x = x := ix_of (by omega) (by omega)
theorem bif_dec {α : Type} {p : Prop} [Decidable p] {x y : α} : (bif decide p then x else y) = if p then x else y := by
  by_cases h : p <;> simp [h]
theorem loopN_succ {X R : Type} (b : X → (X → Option R) → Option R) (m : Nat) (x : X) : loopN b (m + 1) x = b x (loopN b m) := rfl
/-- What holds of a loop: by what is left to go. -/
theorem loopN_ind {X R : Type} {b : X → (X → Option R) → Option R} (μ : X → Nat) (I : X → Prop) (Q : X → Option R → Prop)
    (h : ∀ x J, I x → (∀ y, I y → μ y < μ x → Q y (J y)) → Q x (b x J)) : ∀ n x, I x → μ x < n → Q x (loopN b n x)
  | 0, x, hi, hm => absurd hm (Nat.not_lt_zero _)
  | n + 1, x, hi, hm => h x (loopN b n) hi fun y hy hl => loopN_ind μ I Q h n y hy (by omega)
theorem getD_eq {α : Type} {l : List α} {i : Nat} {d : α} (h : i < l.length) : l.getD i d = l[i] := by
  simp [List.getD, h]
theorem w64_succ {k : Nat} (h : k < 9223372036854775807) : w64 ((k : Int) + 1) = ((k + 1 : Nat) : Int) := by
  rw [w64_id (by omega) (by omega)]
  rfl
theorem take_succ_getD {α : Type} {l : List α} {i : Nat} {d : α} (h : i < l.length) : l.take (i + 1) = l.take i ++ [l.getD i d] := by
  rw [List.take_succ, getD_eq h, List.getElem?_eq_getElem h]
  rfl
theorem drop_getD {α : Type} {l : List α} {i : Nat} {d : α} (h : i < l.length) : l.drop i = l.getD i d :: l.drop (i + 1) := by
  rw [getD_eq h]
  exact List.drop_eq_getElem_cons h
theorem bd_eq {α β : Type} (e : α) (f : α → β) : bd e f = f e := rfl
theorem bd_set {α β : Type} {Q : β → Prop} {F : List α → β} {p : List α} {i : Nat} {x : α} (h : ∀ l : List α, l.length = p.length → Q (F l)) : Q (bd (p.set i x) F) := h _ (by simp)
theorem bd_is {α β : Type} {Q : β → Prop} {F : α → β} {e : α} (h : ∀ v : α, v = e → Q (F v)) : Q (bd e F) := h _ rfl
theorem bd_val {α β : Type} {Q : β → Prop} {F : α → β} {e : α} (h : ∀ v : α, Q (F v)) : Q (bd e F) := h _
theorem chk_q {R : Type} {Q : Option R → Prop} {b : Bool} {x : Option R} (h : b = true) (hx : Q x) : Q (chk b x) := by rw [chk_of h]; exact hx
theorem ix_q {R : Type} {Q : Option R → Prop} {i : Int} {len : Nat} {x : Option R} (h0 : 0 ≤ i) (h1 : i < (len : Int)) (hx : Q x) : Q (ix i len x) := by rw [ix_of h0 h1]; exact hx
theorem bd_upd {α β : Type} {Q : β → Prop} {F : List α → β} {p : List α} {i : Nat} {x d : α} (hi : i < p.length) (h : ∀ l : List α, l.length = p.length → l.getD i d = x → (∀ j, j ≠ i → l.getD j d = p.getD j d) → Q (F l)) : Q (bd (p.set i x) F) :=
  h _ (by simp) (by simp [List.getD, hi]) (fun j hj => by simp [List.getD, List.getElem?_set, Ne.symm hj])
/-- A list written from the front. -/
theorem set_take {α : Type} {a : List α} {d : α} {m k : Nat} (h : k < a.length) (hm : m = a.length := by rfl) : (a.take k ++ (List.replicate m d).drop k).set k (a.getD k d) = a.take (k + 1) ++ (List.replicate m d).drop (k + 1) := by
  subst hm
  have h1 : (a.take k).length = k := by simp; omega
  rw [List.set_append_right _ _ (by omega), h1, Nat.sub_self, take_succ_getD h, List.append_assoc]
  congr 1
  rw [List.drop_eq_getElem_cons (by simp; exact h)]
  rfl
end Go.Sm
end

section
set_option linter.unusedSimpArgs false
set_option linter.deprecated false
set_option linter.unusedSectionVars false
set_option linter.unusedVariables false
set_option linter.unusedSimpArgs false
namespace Go.Sm
attribute [local irreducible] bd chk ix loopN
theorem laws_szFuelS_ok {n : Nat} (a : List SFuel) {left : Int} (h : (a.length ≤ 9223372036854775807 ∧ ∀ y ∈ a, wfSFuel y)) (hl : 0 ≤ left) (hl2 : left ≤ 1048576) (hn : 1000000000 < n) :
    ∃ r, laws_szFuelS n a left = some r ∧ r ≤ left ∧ (0 ≤ r → (a.length : Int) ≤ left) := by
  unfold laws_szFuelS
  obtain ⟨h0, h1⟩ := h
  rw [w64_id (by omega) (by omega), bd_eq, bif_dec]
  split
  · exact ⟨-1, rfl, by omega, by omega⟩
  · exact ⟨_, rfl, by omega, by omega⟩
theorem laws_szPumpS_ok {n : Nat} (a : List SPump) {left : Int} (h : (a.length ≤ 9223372036854775807 ∧ ∀ y ∈ a, wfSPump y)) (hl : 0 ≤ left) (hl2 : left ≤ 1048576) (hn : 1000000000 < n) :
    ∃ r, laws_szPumpS n a left = some r ∧ r ≤ left ∧ (0 ≤ r → (a.length : Int) ≤ left) := by
  unfold laws_szPumpS
  obtain ⟨h0, h1⟩ := h
  rw [w64_id (by omega) (by omega), bd_eq, bif_dec]
  split
  · exact ⟨-1, rfl, by omega, by omega⟩
  · exact ⟨_, rfl, by omega, by omega⟩
theorem laws_toFuel_eq (n : Nat) (a : SFuel) : laws_toFuel n a = some a := by simp [laws_toFuel]
theorem laws_toFuelS_eq {n : Nat} (a : List SFuel) (hl : a.length ≤ 1048576) (hn : 1000000000 < n) : laws_toFuelS n a = some a := by
  unfold laws_toFuelS
  rw [chk_dec (by omega), chk_dec (by omega), chk_dec (by omega)]
  refine loopN_ind (fun x => a.length - x.1.toNat) (fun x => ∃ k : Nat, k ≤ a.length ∧ x = ((k : Int), a.take k ++ (List.replicate a.length dSFuel).drop k)) (fun x r => r = some a) ?_ n _ ⟨0, by omega, by simp⟩ (by simp; omega)
  rintro _ J ⟨k, hk, rfl⟩ ih
  unfold laws_toFuelS_L3
  by_cases h : k < a.length
  · have hlen : (a.take k ++ (List.replicate a.length dSFuel).drop k).length = a.length := by simp; omega
    simp only [Int.ofNat_lt, h, decide_true, cond_true, ix_nat h, hlen, Int.toNat_natCast, Option.bind_some, chk_of, bd_eq, laws_toFuel_eq]
    rw [w64_succ (by omega)]
    exact ih _ ⟨k + 1, h, by rw [set_take h]⟩ (by simp; omega)
  · have : k = a.length := by omega
    subst this
    simp
theorem laws_toPump_eq (n : Nat) (a : SPump) : laws_toPump n a = some a := by simp [laws_toPump]
theorem laws_toPumpS_eq {n : Nat} (a : List SPump) (hl : a.length ≤ 1048576) (hn : 1000000000 < n) : laws_toPumpS n a = some a := by
  unfold laws_toPumpS
  rw [chk_dec (by omega), chk_dec (by omega), chk_dec (by omega)]
  refine loopN_ind (fun x => a.length - x.1.toNat) (fun x => ∃ k : Nat, k ≤ a.length ∧ x = ((k : Int), a.take k ++ (List.replicate a.length dSPump).drop k)) (fun x r => r = some a) ?_ n _ ⟨0, by omega, by simp⟩ (by simp; omega)
  rintro _ J ⟨k, hk, rfl⟩ ih
  unfold laws_toPumpS_L3
  by_cases h : k < a.length
  · have hlen : (a.take k ++ (List.replicate a.length dSPump).drop k).length = a.length := by simp; omega
    simp only [Int.ofNat_lt, h, decide_true, cond_true, ix_nat h, hlen, Int.toNat_natCast, Option.bind_some, chk_of, bd_eq, laws_toPump_eq]
    rw [w64_succ (by omega)]
    exact ih _ ⟨k + 1, h, by rw [set_take h]⟩ (by simp; omega)
  · have : k = a.length := by omega
    subst this
    simp
theorem laws_eqFuel_eq (n : Nat) (a : SFuel) : laws_eqFuel n a a = some true := by simp [laws_eqFuel]
theorem laws_eqFuelS_eq {n : Nat} (a : List SFuel) (hl : a.length ≤ 1048576) (hn : 1000000000 < n) : laws_eqFuelS n a a = some true := by
  unfold laws_eqFuelS
  simp only [decide_true, Bool.not_true, cond_false]
  refine loopN_ind (fun x => a.length - x.toNat) (fun x => ∃ k : Nat, k ≤ a.length ∧ x = (k : Int)) (fun x r => r = some true) ?_ n _ ⟨0, by omega, rfl⟩ (by simp; omega)
  rintro _ J ⟨k, hk, rfl⟩ ih
  unfold laws_eqFuelS_L4
  by_cases h : k < a.length
  · simp only [Int.ofNat_lt, h, decide_true, cond_true, ix_nat h, Bool.not_true, cond_false, bd_eq, Option.bind_some, beq_self_eq_true, laws_eqFuel_eq]
    rw [w64_succ (by omega)]
    exact ih _ ⟨k + 1, h, rfl⟩ (by simp; omega)
  · simp [h]
theorem laws_eqIntS_eq {n : Nat} (a : List Int) (hl : a.length ≤ 1048576) (hn : 1000000000 < n) : laws_eqIntS n a a = some true := by
  unfold laws_eqIntS
  simp only [decide_true, Bool.not_true, cond_false]
  refine loopN_ind (fun x => a.length - x.toNat) (fun x => ∃ k : Nat, k ≤ a.length ∧ x = (k : Int)) (fun x r => r = some true) ?_ n _ ⟨0, by omega, rfl⟩ (by simp; omega)
  rintro _ J ⟨k, hk, rfl⟩ ih
  unfold laws_eqIntS_L4
  by_cases h : k < a.length
  · simp only [Int.ofNat_lt, h, decide_true, cond_true, ix_nat h, Bool.not_true, cond_false, bd_eq, Option.bind_some, beq_self_eq_true]
    rw [w64_succ (by omega)]
    exact ih _ ⟨k + 1, h, rfl⟩ (by simp; omega)
  · simp [h]
theorem laws_eqPump_eq (n : Nat) (a : SPump) : laws_eqPump n a a = some true := by simp [laws_eqPump]
theorem laws_eqPumpS_eq {n : Nat} (a : List SPump) (hl : a.length ≤ 1048576) (hn : 1000000000 < n) : laws_eqPumpS n a a = some true := by
  unfold laws_eqPumpS
  simp only [decide_true, Bool.not_true, cond_false]
  refine loopN_ind (fun x => a.length - x.toNat) (fun x => ∃ k : Nat, k ≤ a.length ∧ x = (k : Int)) (fun x r => r = some true) ?_ n _ ⟨0, by omega, rfl⟩ (by simp; omega)
  rintro _ J ⟨k, hk, rfl⟩ ih
  unfold laws_eqPumpS_L4
  by_cases h : k < a.length
  · simp only [Int.ofNat_lt, h, decide_true, cond_true, ix_nat h, Bool.not_true, cond_false, bd_eq, Option.bind_some, beq_self_eq_true, laws_eqPump_eq]
    rw [w64_succ (by omega)]
    exact ih _ ⟨k + 1, h, rfl⟩ (by simp; omega)
  · simp [h]
def MkFuelS (n : Nat) (k : Int) (x : SFuel) : Prop := x.Has = k ∧ x.Most = (k + 1)
def MkFuelSQ (n : Nat) (k0 : Int) (m : Nat) (r : Option (Int × List SFuel)) : Prop := ∃ a2 : List SFuel, r = some (k0 + 2 * (m : Int), a2) ∧ a2.length = m ∧ ∀ i, i < m → MkFuelS n (k0 + 2 * (i : Int)) (a2.getD i dSFuel)
theorem laws_markFuelS_ok {n : Nat} (a : List SFuel) (k0 : Int) (hk0 : 0 ≤ k0) (hb : k0 + 2 * (a.length : Int) ≤ 900000000) (hn : 1000000000 < n) : MkFuelSQ n k0 a.length (laws_markFuelS n a k0) := by
  unfold laws_markFuelS
  refine loopN_ind (fun x => a.length - x.2.1.toNat) (fun x => ∃ (k : Nat) (p : List SFuel), k ≤ a.length ∧ x = (k0 + 2 * (k : Int), (k : Int), p) ∧ p.length = a.length ∧ ∀ i, i < k → MkFuelS n (k0 + 2 * (i : Int)) (p.getD i dSFuel))
    (fun x r => MkFuelSQ n k0 a.length r) ?_ n _ ⟨0, a, by omega, by simp, rfl, by omega⟩ (by simp; omega)
  rintro _ J ⟨k, p, hk, rfl, hp, hm⟩ ih
  unfold laws_markFuelS_L2
  by_cases h : k < a.length
  · have h' : k < p.length := by omega
    simp only [Int.ofNat_lt, h', decide_true, cond_true, Int.toNat_natCast]
    unfold laws_markFuelS_k0
    try simp (disch := omega) only [w64_id, Int.toNat_natCast, Int.add_assoc, Int.reduceAdd]
    try simp only [Option.bind_some, Int.add_assoc, Int.reduceAdd]
    repeat (first | refine ix_q (Q := MkFuelSQ n k0 a.length) (by omega) (by omega) ?_ | refine chk_q (Q := MkFuelSQ n k0 a.length) (decide_eq_true (by omega)) ?_ | refine bd_upd (Q := MkFuelSQ n k0 a.length) (d := dSFuel) (i := k) (by omega) fun l hl hi hj => ?_ | (refine bd_is (α := Int) (Q := MkFuelSQ n k0 a.length) fun v hv => ?_; try simp (disch := omega) only [w64_id] at hv; subst hv) | refine bd_is (α := SFuel) (Q := MkFuelSQ n k0 a.length) fun e he => ?_)
    try simp (disch := omega) only [w64_id]
    refine ih _ ⟨k + 1, _, h, Prod.ext (by dsimp only; omega) (Prod.ext (by dsimp only; omega) rfl), by first | omega | (rw [List.length_set]; omega), fun j hj' => ?_⟩ (by dsimp only; omega)
    by_cases e : j = k
    · subst e
      first | (simp only [MkFuelS, *, Int.add_assoc, Int.reduceAdd, and_self]; done) | (simp only [MkFuelS, *, Int.add_assoc, Int.reduceAdd, and_self]; simp (disch := omega) only [w64_id, and_self]; done) | simp [MkFuelS, List.getD, h']
    · have := hm j (by omega)
      first | (have hall : l.getD j dSFuel = p.getD j dSFuel := by simp (disch := assumption) only [*]
               rw [hall]
               exact this) | simpa [MkFuelS, List.getD, List.getElem?_set, Ne.symm e] using this
  · have h' : ¬ k < p.length := by omega
    simp only [Int.ofNat_lt, h', decide_false, cond_false]
    have : k = a.length := by omega
    subst this
    exact ⟨p, rfl, hp, hm⟩
def MkPumpS (n : Nat) (k : Int) (x : SPump) : Prop := x.From = k ∧ x.To = (k + 1) ∧ x.Many = (k + 2)
def MkPumpSQ (n : Nat) (k0 : Int) (m : Nat) (r : Option (Int × List SPump)) : Prop := ∃ a2 : List SPump, r = some (k0 + 3 * (m : Int), a2) ∧ a2.length = m ∧ ∀ i, i < m → MkPumpS n (k0 + 3 * (i : Int)) (a2.getD i dSPump)
theorem laws_markPumpS_ok {n : Nat} (a : List SPump) (k0 : Int) (hk0 : 0 ≤ k0) (hb : k0 + 3 * (a.length : Int) ≤ 900000000) (hn : 1000000000 < n) : MkPumpSQ n k0 a.length (laws_markPumpS n a k0) := by
  unfold laws_markPumpS
  refine loopN_ind (fun x => a.length - x.2.1.toNat) (fun x => ∃ (k : Nat) (p : List SPump), k ≤ a.length ∧ x = (k0 + 3 * (k : Int), (k : Int), p) ∧ p.length = a.length ∧ ∀ i, i < k → MkPumpS n (k0 + 3 * (i : Int)) (p.getD i dSPump))
    (fun x r => MkPumpSQ n k0 a.length r) ?_ n _ ⟨0, a, by omega, by simp, rfl, by omega⟩ (by simp; omega)
  rintro _ J ⟨k, p, hk, rfl, hp, hm⟩ ih
  unfold laws_markPumpS_L2
  by_cases h : k < a.length
  · have h' : k < p.length := by omega
    simp only [Int.ofNat_lt, h', decide_true, cond_true, Int.toNat_natCast]
    unfold laws_markPumpS_k0
    try simp (disch := omega) only [w64_id, Int.toNat_natCast, Int.add_assoc, Int.reduceAdd]
    try simp only [Option.bind_some, Int.add_assoc, Int.reduceAdd]
    repeat (first | refine ix_q (Q := MkPumpSQ n k0 a.length) (by omega) (by omega) ?_ | refine chk_q (Q := MkPumpSQ n k0 a.length) (decide_eq_true (by omega)) ?_ | refine bd_upd (Q := MkPumpSQ n k0 a.length) (d := dSPump) (i := k) (by omega) fun l hl hi hj => ?_ | (refine bd_is (α := Int) (Q := MkPumpSQ n k0 a.length) fun v hv => ?_; try simp (disch := omega) only [w64_id] at hv; subst hv) | refine bd_is (α := SPump) (Q := MkPumpSQ n k0 a.length) fun e he => ?_)
    try simp (disch := omega) only [w64_id]
    refine ih _ ⟨k + 1, _, h, Prod.ext (by dsimp only; omega) (Prod.ext (by dsimp only; omega) rfl), by first | omega | (rw [List.length_set]; omega), fun j hj' => ?_⟩ (by dsimp only; omega)
    by_cases e : j = k
    · subst e
      first | (simp only [MkPumpS, *, Int.add_assoc, Int.reduceAdd, and_self]; done) | (simp only [MkPumpS, *, Int.add_assoc, Int.reduceAdd, and_self]; simp (disch := omega) only [w64_id, and_self]; done) | simp [MkPumpS, List.getD, h']
    · have := hm j (by omega)
      first | (have hall : l.getD j dSPump = p.getD j dSPump := by simp (disch := assumption) only [*]
               rw [hall]
               exact this) | simpa [MkPumpS, List.getD, List.getElem?_set, Ne.symm e] using this
  · have h' : ¬ k < p.length := by omega
    simp only [Int.ofNat_lt, h', decide_false, cond_false]
    have : k = a.length := by omega
    subst this
    exact ⟨p, rfl, hp, hm⟩
def MkIntS (n : Nat) (k : Int) (x : Int) : Prop := x = k
def MkIntSQ (n : Nat) (k0 : Int) (m : Nat) (r : Option (Int × List Int)) : Prop := ∃ a2 : List Int, r = some (k0 + 1 * (m : Int), a2) ∧ a2.length = m ∧ ∀ i, i < m → MkIntS n (k0 + 1 * (i : Int)) (a2.getD i (0 : Int))
theorem laws_markIntS_ok {n : Nat} (a : List Int) (k0 : Int) (hk0 : 0 ≤ k0) (hb : k0 + 1 * (a.length : Int) ≤ 900000000) (hn : 1000000000 < n) : MkIntSQ n k0 a.length (laws_markIntS n a k0) := by
  unfold laws_markIntS
  refine loopN_ind (fun x => a.length - x.2.1.toNat) (fun x => ∃ (k : Nat) (p : List Int), k ≤ a.length ∧ x = (k0 + 1 * (k : Int), (k : Int), p) ∧ p.length = a.length ∧ ∀ i, i < k → MkIntS n (k0 + 1 * (i : Int)) (p.getD i (0 : Int)))
    (fun x r => MkIntSQ n k0 a.length r) ?_ n _ ⟨0, a, by omega, by simp, rfl, by omega⟩ (by simp; omega)
  rintro _ J ⟨k, p, hk, rfl, hp, hm⟩ ih
  unfold laws_markIntS_L2
  by_cases h : k < a.length
  · have h' : k < p.length := by omega
    simp only [Int.ofNat_lt, h', decide_true, cond_true, Int.toNat_natCast, ix_nat h', chk_of]
    try simp (disch := omega) only [w64_id, Int.toNat_natCast, Int.add_assoc, Int.reduceAdd]
    try simp only [Option.bind_some, Int.add_assoc, Int.reduceAdd]
    repeat (first | refine ix_q (Q := MkIntSQ n k0 a.length) (by omega) (by omega) ?_ | refine chk_q (Q := MkIntSQ n k0 a.length) (decide_eq_true (by omega)) ?_ | refine bd_upd (Q := MkIntSQ n k0 a.length) (d := (0 : Int)) (i := k) (by omega) fun l hl hi hj => ?_ | (refine bd_is (α := Int) (Q := MkIntSQ n k0 a.length) fun v hv => ?_; try simp (disch := omega) only [w64_id] at hv; subst hv) | refine bd_is (α := Int) (Q := MkIntSQ n k0 a.length) fun e he => ?_)
    try simp (disch := omega) only [w64_id]
    refine ih _ ⟨k + 1, _, h, Prod.ext (by dsimp only; omega) (Prod.ext (by dsimp only; omega) rfl), by first | omega | (rw [List.length_set]; omega), fun j hj' => ?_⟩ (by dsimp only; omega)
    by_cases e : j = k
    · subst e
      first | (simp only [MkIntS, *, Int.add_assoc, Int.reduceAdd, and_self]; done) | (simp only [MkIntS, *, Int.add_assoc, Int.reduceAdd, and_self]; simp (disch := omega) only [w64_id, and_self]; done) | simp [MkIntS, List.getD, h']
    · have := hm j (by omega)
      first | (have hall : l.getD j (0 : Int) = p.getD j (0 : Int) := by simp (disch := assumption) only [*]
               rw [hall]
               exact this) | simpa [MkIntS, List.getD, List.getElem?_set, Ne.symm e] using this
  · have h' : ¬ k < p.length := by omega
    simp only [Int.ofNat_lt, h', decide_false, cond_false]
    have : k = a.length := by omega
    subst this
    exact ⟨p, rfl, hp, hm⟩
theorem laws_heldFuelS_ok {n : Nat} (a : List SFuel) (k0 : Int) (hk0 : 0 ≤ k0) (hb : k0 + 2 * (a.length : Int) ≤ 900000000) (hn : 1000000000 < n) (ha : ∀ i, i < a.length → MkFuelS n (k0 + 2 * (i : Int)) (a.getD i dSFuel)) : laws_heldFuelS n a k0 = some (k0 + 2 * (a.length : Int)) := by
  unfold laws_heldFuelS
  refine loopN_ind (fun x => a.length - x.2.toNat) (fun x => ∃ (k : Nat), k ≤ a.length ∧ x = (k0 + 2 * (k : Int), (k : Int)))
    (fun x r => r = some (k0 + 2 * (a.length : Int))) ?_ n _ ⟨0, by omega, by simp⟩ (by simp; omega)
  rintro _ J ⟨k, hk, rfl⟩ ih
  unfold laws_heldFuelS_L2
  by_cases h : k < a.length
  · obtain ⟨e0, e1⟩ := ha k h
    simp only [Int.ofNat_lt, h, decide_true, cond_true]
    unfold laws_heldFuelS_k0
    simp (disch := omega) only [w64_id, ix_nat h, Int.toNat_natCast, bd_eq, Int.add_assoc, Int.reduceAdd, e0, e1, decide_true, Bool.not_true, cond_false, Option.bind_some, beq_self_eq_true]
    refine Eq.trans ?_ (ih (k0 + 2 * ((k + 1 : Nat) : Int), ((k + 1 : Nat) : Int)) ⟨k + 1, h, rfl⟩ (by simp; omega))
    congr 2
    all_goals omega
  · have : k = a.length := by omega
    subst this
    simp
theorem laws_heldIntS_ok {n : Nat} (a : List Int) (k0 : Int) (hk0 : 0 ≤ k0) (hb : k0 + 1 * (a.length : Int) ≤ 900000000) (hn : 1000000000 < n) (ha : ∀ i, i < a.length → MkIntS n (k0 + 1 * (i : Int)) (a.getD i (0 : Int))) : laws_heldIntS n a k0 = some (k0 + 1 * (a.length : Int)) := by
  unfold laws_heldIntS
  refine loopN_ind (fun x => a.length - x.2.toNat) (fun x => ∃ (k : Nat), k ≤ a.length ∧ x = (k0 + 1 * (k : Int), (k : Int)))
    (fun x r => r = some (k0 + 1 * (a.length : Int))) ?_ n _ ⟨0, by omega, by simp⟩ (by simp; omega)
  rintro _ J ⟨k, hk, rfl⟩ ih
  unfold laws_heldIntS_L2
  by_cases h : k < a.length
  · have e0 := ha k h; unfold MkIntS at e0
    simp only [Int.ofNat_lt, h, decide_true, cond_true]
    simp (disch := omega) only [w64_id, ix_nat h, Int.toNat_natCast, bd_eq, Int.add_assoc, Int.reduceAdd, e0, decide_true, Bool.not_true, cond_false, Option.bind_some, beq_self_eq_true]
    refine Eq.trans ?_ (ih (k0 + 1 * ((k + 1 : Nat) : Int), ((k + 1 : Nat) : Int)) ⟨k + 1, h, rfl⟩ (by simp; omega))
    congr 2
    all_goals omega
  · have : k = a.length := by omega
    subst this
    simp
end Go.Sm
end

section
set_option linter.unusedSimpArgs false
set_option linter.deprecated false
set_option linter.unusedSectionVars false
set_option linter.unusedVariables false
set_option linter.unusedSimpArgs false
namespace Go.Sm
attribute [local irreducible] bd chk ix loopN
def fuelBad (t : SFuel) : Bool := (!(decide (0 ≤ t.Has ∧ t.Has ≤ t.Most))) || decide (t.Most > 1000000)
def fuelsOk (l : List SFuel) : Bool := decide (l.length ≤ 8) && !(l.any fuelBad)
theorem in_spec7 (n : Nat) (x a b : Int) : spec_l1In n x a b = some (decide (a ≤ x ∧ x ≤ b)) := by
  unfold spec_l1In
  by_cases h0 : a ≤ x <;> by_cases h1 : x ≤ b <;> simp [h0, h1]
theorem in_impl7 (n : Nat) (x a b : Int) : impl_in n x a b = some (decide (a ≤ x ∧ x ≤ b)) := by
  unfold impl_in
  by_cases h0 : a ≤ x <;> by_cases h1 : x ≤ b <;> simp [h0, h1]
theorem any_take_succ7 {α : Type} {l : List α} {k : Nat} {d : α} (f : α → Bool) (h : k < l.length) : (l.take (k + 1)).any f = ((l.take k).any f || f (l.getD k d)) := by
  rw [take_succ_getD (d := d) h, List.any_append]
  simp
theorem any_of_getD {α : Type} {l : List α} {k : Nat} {d : α} {f : α → Bool} (h : k < l.length) (hf : f (l.getD k d) = true) : l.any f = true := by
  rw [List.any_eq_true]
  exact ⟨l.getD k d, by rw [getD_eq h]; exact List.getElem_mem h, hf⟩
theorem fuels_spec {n : Nat} (l : List SFuel) (hl : l.length ≤ 1048576) (hn : 1000000000 < n) : spec_l10Fuels n l = some (fuelsOk l) := by
  unfold spec_l10Fuels
  refine loopN_ind (fun x => l.length - x.toNat) (fun x => ∃ k : Nat, k ≤ l.length ∧ x = (k : Int) ∧ (l.take k).any fuelBad = false) (fun x r => r = some (fuelsOk l)) ?_ n _ ⟨0, by omega, rfl, rfl⟩ (by simp; omega)
  rintro _ J ⟨k, hk, rfl, hb⟩ ih
  unfold spec_l10Fuels_L2
  by_cases h : k < l.length
  · simp only [Int.ofNat_lt, h, decide_true, cond_true]
    unfold spec_l10Fuels_k0
    simp only [ix_nat h, Int.toNat_natCast, bd_eq, in_spec7, Option.bind_some]
    have hbad : fuelBad (l.getD k dSFuel) = true → fuelsOk l = false := fun hf => by rw [fuelsOk, any_of_getD h hf]; simp
    have key := ih ((k + 1 : Nat) : Int)
    cases h1 : decide (0 ≤ (l.getD k dSFuel).Has ∧ (l.getD k dSFuel).Has ≤ (l.getD k dSFuel).Most) with
    | false =>
      rw [hbad (by rw [fuelBad, h1]; rfl)]
      rfl
    | true =>
      cases h2 : decide ((l.getD k dSFuel).Most > 1000000) with
      | true =>
        rw [hbad (by rw [fuelBad, h2]; simp)]
        rfl
      | false =>
        simp only [Bool.not_true, cond_false]
        rw [w64_succ (by omega)]
        exact key ⟨k + 1, h, rfl, by rw [any_take_succ7 (d := dSFuel) _ h, hb, fuelBad, h1, h2]; rfl⟩ (by simp; omega)
  · have : k = l.length := by omega
    subst this
    rw [List.take_length] at hb
    simp only [Int.lt_irrefl, decide_false, cond_false]
    rw [fuelsOk, hb]
    by_cases h8 : l.length ≤ 8
    · simp [h8]; omega
    · simp [h8]; omega
theorem bad_impl (n : Nat) (t : SFuel) : impl_tanksRight_1 n t = some (fuelBad t) := by
  unfold impl_tanksRight_1
  rw [in_impl7, Option.bind_some, fuelBad]
  cases decide (0 ≤ t.Has ∧ t.Has ≤ t.Most) <;> rfl
theorem fuels_impl {n : Nat} (l : List SFuel) (hl : l.length ≤ 1048576) (hn : 1000000000 < n) : impl_tanksRight n l = some (fuelsOk l) := by
  unfold impl_tanksRight
  by_cases h8 : l.length ≤ 8
  · have e8 : decide ((l.length : Int) ≤ 8) = true := decide_eq_true (by omega)
    rw [e8, cond_true]
    unfold slices_ContainsFunc_impl_Fuel_impl_Fuel__impl_tanksRight_1
    have : ∃ r, slices_IndexFunc_impl_Fuel_impl_Fuel__impl_tanksRight_1 n l = some r ∧ decide (r ≥ 0) = l.any fuelBad := by
      unfold slices_IndexFunc_impl_Fuel_impl_Fuel__impl_tanksRight_1
      refine loopN_ind (fun x => l.length - x.toNat) (fun x => ∃ k : Nat, k ≤ l.length ∧ x = (k : Int) ∧ (l.take k).any fuelBad = false) (fun x r => ∃ r', r = some r' ∧ decide (r' ≥ 0) = l.any fuelBad) ?_ n _ ⟨0, by omega, rfl, rfl⟩ (by simp; omega)
      rintro _ J ⟨k, hk, rfl, hb⟩ ih
      unfold slices_IndexFunc_impl_Fuel_impl_Fuel__impl_tanksRight_1_L2
      by_cases h : k < l.length
      · simp only [Int.ofNat_lt, h, decide_true, cond_true, ix_nat h, Int.toNat_natCast, bd_eq, bad_impl, Option.bind_some]
        cases hf : fuelBad (l.getD k dSFuel) with
        | true => exact ⟨_, rfl, by rw [any_of_getD h hf]; simp⟩
        | false =>
          rw [cond_false, w64_succ (by omega)]
          exact ih _ ⟨k + 1, h, rfl, by rw [any_take_succ7 (d := dSFuel) _ h, hb, hf]; rfl⟩ (by simp; omega)
      · have : k = l.length := by omega
        subst this
        rw [List.take_length] at hb
        simp only [Int.lt_irrefl, decide_false, cond_false]
        exact ⟨_, rfl, by rw [hb]; rfl⟩
    obtain ⟨r, h1, h2⟩ := this
    rw [h1]
    simp only [Option.bind_some, h2, fuelsOk, h8, decide_true, Bool.true_and]
  · have e8 : decide ((l.length : Int) ≤ 8) = false := decide_eq_false (by omega)
    rw [e8, cond_false, fuelsOk, decide_eq_false h8]
    rfl
/-! ### One pump -/
def pTo (p : SPump) (t : List SFuel) : List SFuel := if 0 ≤ p.To then t.set p.To.toNat ⟨w64 ((t.getD p.To.toNat dSFuel).Has + p.Many), (t.getD p.To.toNat dSFuel).Most⟩ else t
def pFrom (p : SPump) (t : List SFuel) : List SFuel := if 0 ≤ p.From then t.set p.From.toNat ⟨w64 ((t.getD p.From.toNat dSFuel).Has - p.Many), (t.getD p.From.toNat dSFuel).Most⟩ else t
def pumpBad (l : List SFuel) (p : SPump) : Prop := fuelsOk l = false ∨ ¬ (-1 ≤ p.From ∧ p.From ≤ (l.length : Int) - 1) ∨ ¬ (-1 ≤ p.To ∧ p.To ≤ (l.length : Int) - 1) ∨ p.From = p.To ∨ ¬ (1 ≤ p.Many ∧ p.Many ≤ 1000000)
instance (l : List SFuel) (p : SPump) : Decidable (pumpBad l p) := by unfold pumpBad; exact inferInstance
def pumped (l : List SFuel) (p : SPump) : List SFuel × Int :=
  if pumpBad l p then (l, 1)
  else if 0 ≤ p.From ∧ (l.getD p.From.toNat dSFuel).Has < p.Many then (l, 2)
  else if 0 ≤ p.To ∧ w64 ((l.getD p.To.toNat dSFuel).Has + p.Many) > (l.getD p.To.toNat dSFuel).Most then (l, 3)
  else (pTo p (pFrom p l), 0)
theorem pFrom_len (p : SPump) (t : List SFuel) : (pFrom p t).length = t.length := by unfold pFrom; split <;> simp
theorem pTo_len (p : SPump) (t : List SFuel) : (pTo p t).length = t.length := by unfold pTo; split <;> simp
theorem pumped_len (p : SPump) (t : List SFuel) : (pumped t p).1.length = t.length := by
  unfold pumped
  split
  · rfl
  · split
    · rfl
    · split
      · rfl
      · rw [pTo_len, pFrom_len]
theorem to_spec {n : Nat} (p : SPump) (t : List SFuel) (h : p.To ≤ (t.length : Int) - 1) : spec_Pumped_k0 n p t = some (pTo p t, 0) := by
  unfold spec_Pumped_k0 pTo
  by_cases h0 : 0 ≤ p.To
  · have h1 : p.To.toNat < t.length := by omega
    simp only [h0, ge_iff_le, decide_true, cond_true, ix_of h0 (show p.To < (t.length : Int) by omega), h1, chk_of, bd_eq, if_true]
  · simp only [h0, ge_iff_le, decide_false, cond_false, if_false]
theorem to_spec1 {n : Nat} (p : SPump) (t : List SFuel) (h : p.To ≤ (t.length : Int) - 1) : spec_Pumped_k1 n p t = some (pTo p t, 0) := to_spec (n := n) p t h
theorem to_impl {n : Nat} (p : SPump) (t : List SFuel) (h : p.To ≤ (t.length : Int) - 1) : impl_Pumped_k0 n p t = some (pTo p t, 0) := to_spec (n := n) p t h
theorem from_spec {n : Nat} (p : SPump) (t : List SFuel) (h : p.To ≤ (t.length : Int) - 1) (h2 : p.From ≤ (t.length : Int) - 1) : spec_Pumped_k2 n p t = some (pTo p (pFrom p t), 0) := by
  unfold spec_Pumped_k2
  by_cases h0 : 0 ≤ p.From
  · have h1 : p.From.toNat < t.length := by omega
    simp only [h0, ge_iff_le, decide_true, cond_true, ix_of h0 (show p.From < (t.length : Int) by omega), h1, chk_of, bd_eq]
    rw [to_spec _ _ (by simpa using h), pFrom, if_pos h0]
  · simp only [h0, ge_iff_le, decide_false, cond_false]
    rw [to_spec1 _ _ h, pFrom, if_neg h0]
theorem from_impl {n : Nat} (p : SPump) (t : List SFuel) (h : p.To ≤ (t.length : Int) - 1) (h2 : p.From ≤ (t.length : Int) - 1) : impl_Pumped_k1 n p t = some (pTo p (pFrom p t), 0) := from_spec (n := n) p t h h2
theorem k3_spec {n : Nat} (p : SPump) (t : List SFuel) (h : p.To ≤ (t.length : Int) - 1) (h2 : p.From ≤ (t.length : Int) - 1) :
    spec_Pumped_k3 n p t = some (if 0 ≤ p.To ∧ w64 ((t.getD p.To.toNat dSFuel).Has + p.Many) > (t.getD p.To.toNat dSFuel).Most then (t, 3) else (pTo p (pFrom p t), 0)) := by
  unfold spec_Pumped_k3
  by_cases h0 : 0 ≤ p.To
  · have h1 : p.To.toNat < t.length := by omega
    simp only [h0, ge_iff_le, decide_true, cond_true, ix_of h0 (show p.To < (t.length : Int) by omega), h1, chk_of, bd_eq, true_and, from_spec _ _ h h2]
    rw [bif_dec]
    split <;> rfl
  · simp only [h0, ge_iff_le, decide_false, cond_false, from_spec _ _ h h2, false_and, if_false]
theorem k3_impl {n : Nat} (p : SPump) (t : List SFuel) (h : p.To ≤ (t.length : Int) - 1) (h2 : p.From ≤ (t.length : Int) - 1) :
    impl_Pumped_k3 n p t = some (if 0 ≤ p.To ∧ w64 ((t.getD p.To.toNat dSFuel).Has + p.Many) > (t.getD p.To.toNat dSFuel).Most then (t, 3) else (pTo p (pFrom p t), 0)) := k3_spec (n := n) p t h h2
theorem pumped_spec {n : Nat} (l : List SFuel) (p : SPump) (hl : l.length ≤ 1048576) (hn : 1000000000 < n) : spec_Pumped n l p = some (pumped l p) := by
  unfold spec_Pumped
  rw [chk_dec (by omega), w64_id (by omega) (by omega), bd_eq]
  simp only [fuels_spec l hl hn, Option.bind_some, in_spec7]
  unfold pumped
  by_cases b1 : fuelsOk l = true
  · by_cases b2 : -1 ≤ p.From ∧ p.From ≤ (l.length : Int) - 1
    · by_cases b3 : -1 ≤ p.To ∧ p.To ≤ (l.length : Int) - 1
      · by_cases b4 : p.From = p.To
        · rw [if_pos (show pumpBad l p from .inr (.inr (.inr (.inl b4))))]; simp [b1, b2, b3, b4]
        · by_cases b5 : 1 ≤ p.Many ∧ p.Many ≤ 1000000
          · have hneg : ¬ pumpBad l p := by
              rintro (h | h | h | h | h)
              · rw [b1] at h; cases h
              · exact h b2
              · exact h b3
              · exact b4 h
              · exact h b5
            rw [if_neg hneg]
            simp only [b1, decide_eq_true b2, decide_eq_true b3, decide_eq_false b4, decide_eq_true b5, Bool.not_true, cond_false]
            unfold spec_Pumped_k4
            by_cases h0 : 0 ≤ p.From
            · have h1 : p.From.toNat < l.length := by omega
              simp only [h0, ge_iff_le, decide_true, cond_true, ix_of h0 (show p.From < (l.length : Int) by omega), h1, chk_of, true_and, k3_spec p l b3.2 b2.2]
              rw [bif_dec]
              by_cases h6 : (l.getD p.From.toNat dSFuel).Has < p.Many
              · rw [if_pos h6, if_pos h6]
              · rw [if_neg h6, if_neg h6]
            · simp only [h0, ge_iff_le, decide_false, cond_false, k3_spec p l b3.2 b2.2, false_and, if_false]
          · rw [if_pos (show pumpBad l p from .inr (.inr (.inr (.inr b5))))]; simp [b1, b2, b3, b4, b5]
      · rw [if_pos (show pumpBad l p from .inr (.inr (.inl b3)))]; simp [b1, b2, b3]
    · rw [if_pos (show pumpBad l p from .inr (.inl b2))]; simp [b1, b2]
  · rw [if_pos (show pumpBad l p from .inl (by simpa using b1))]; simp [b1]
theorem own_fuel (n : Nat) (l : List SFuel) (h : l.length ≤ 1048576) : impl_own_impl_Fuel n l = some l := by
  unfold impl_own_impl_Fuel
  rw [chk_dec (by omega), chk_dec (by omega), chk_dec (by omega)]
theorem own_int7 (n : Nat) (l : List Int) (h : l.length ≤ 1048576) : impl_own_int n l = some l := by
  unfold impl_own_int
  rw [chk_dec (by omega), chk_dec (by omega), chk_dec (by omega)]
theorem pumped_impl {n : Nat} (l : List SFuel) (p : SPump) (hl : l.length ≤ 1048576) (hn : 1000000000 < n) : impl_Pumped n l p = some (pumped l p) := by
  unfold impl_Pumped
  rw [own_fuel n l hl, Option.bind_some, w64_id (by omega) (by omega), bd_eq]
  simp only [fuels_impl l hl hn, Option.bind_some, in_impl7]
  unfold pumped
  by_cases b1 : fuelsOk l = true
  · by_cases b2 : -1 ≤ p.From ∧ p.From ≤ (l.length : Int) - 1
    · by_cases b3 : -1 ≤ p.To ∧ p.To ≤ (l.length : Int) - 1
      · by_cases b4 : p.From = p.To
        · rw [if_pos (show pumpBad l p from .inr (.inr (.inr (.inl b4))))]; simp [b1, b2, b3, b4]
        · by_cases b5 : 1 ≤ p.Many ∧ p.Many ≤ 1000000
          · have hneg : ¬ pumpBad l p := by
              rintro (h | h | h | h | h)
              · rw [b1] at h; cases h
              · exact h b2
              · exact h b3
              · exact b4 h
              · exact h b5
            rw [if_neg hneg]
            simp only [b1, decide_eq_true b2, decide_eq_true b3, decide_eq_false b4, decide_eq_true b5, Bool.not_true, cond_false]
            by_cases h0 : 0 ≤ p.From
            · have h1 : p.From.toNat < l.length := by omega
              simp only [h0, ge_iff_le, decide_true, cond_true, ix_of h0 (show p.From < (l.length : Int) by omega), h1, chk_of, true_and]
              unfold impl_Pumped_k2
              rw [← impl_Pumped_k3, k3_impl p l b3.2 b2.2, bif_dec]
              by_cases h6 : (l.getD p.From.toNat dSFuel).Has < p.Many
              · rw [if_pos h6, if_pos h6]
              · rw [if_neg h6, if_neg h6]
            · simp only [h0, ge_iff_le, decide_false, cond_false, k3_impl p l b3.2 b2.2, false_and, if_false]
          · rw [if_pos (show pumpBad l p from .inr (.inr (.inr (.inr b5))))]; simp [b1, b2, b3, b4, b5]
      · rw [if_pos (show pumpBad l p from .inr (.inr (.inl b3)))]; simp [b1, b2, b3]
    · rw [if_pos (show pumpBad l p from .inr (.inl b2))]; simp [b1, b2]
  · rw [if_pos (show pumpBad l p from .inl (by simpa using b1))]; simp [b1]
/-! ### All pumps -/
structure PSt where
  came : Int
  went : Int
  l : List SFuel
  codes : List Int
def pstep (s : PSt) (p : SPump) : PSt :=
  ⟨if (pumped s.l p).2 = 0 ∧ p.From < 0 then w64 (s.came + p.Many) else s.came, if (pumped s.l p).2 = 0 ∧ p.To < 0 then w64 (s.went + p.Many) else s.went, (pumped s.l p).1, s.codes ++ [(pumped s.l p).2]⟩
def pfold (l : List SFuel) (ps : List SPump) : PSt := ps.foldl pstep ⟨0, 0, l, []⟩
def pumpAllR (l : List SFuel) (ps : List SPump) : List SFuel × List Int × Int × Int :=
  if ps.length ≤ 60 then ((pfold l ps).l, (pfold l ps).codes, (pfold l ps).came, (pfold l ps).went) else (l, [], 0, 0)
theorem pfold_succ (l : List SFuel) (ps : List SPump) {k : Nat} (h : k < ps.length) : pfold l (ps.take (k + 1)) = pstep (pfold l (ps.take k)) (ps.getD k dSPump) := by
  unfold pfold
  rw [take_succ_getD (d := dSPump) h, List.foldl_append]
  rfl
theorem pfold_len (l : List SFuel) (ps : List SPump) : ∀ k, k ≤ ps.length → (pfold l (ps.take k)).l.length = l.length ∧ (pfold l (ps.take k)).codes.length = k
  | 0, _ => ⟨rfl, rfl⟩
  | k + 1, h => by
    obtain ⟨h1, h2⟩ := pfold_len l ps k (by omega)
    rw [pfold_succ l ps (by omega)]
    exact ⟨(pumped_len _ _).trans h1, by show (_ ++ [_]).length = _; simp [h2]⟩
theorem pumpAll_spec {n : Nat} (l : List SFuel) (ps : List SPump) (hl : l.length ≤ 1048576) (hps : ps.length ≤ 1048576) (hn : 1000000000 < n) : spec_PumpAll n l ps = some (pumpAllR l ps) := by
  unfold spec_PumpAll
  rw [chk_dec (by omega)]
  by_cases h60 : ps.length ≤ 60
  · refine loopN_ind (fun x => ps.length - x.2.2.1.toNat) (fun x => ∃ k : Nat, k ≤ ps.length ∧ x = ((pfold l (ps.take k)).came, (pfold l (ps.take k)).went, (k : Int), (pfold l (ps.take k)).l, (pfold l (ps.take k)).codes)) (fun x r => r = some (pumpAllR l ps)) ?_ n _ ⟨0, by omega, rfl⟩ (by simp; omega)
    rintro _ J ⟨k, hk, rfl⟩ ih
    obtain ⟨g1, g2⟩ := pfold_len l ps k hk
    unfold spec_PumpAll_L5
    by_cases h : k < ps.length
    · have h60' : (ps.length : Int) ≤ 60 := by omega
      simp only [Int.ofNat_lt, h, decide_true, cond_true, h60']
      unfold spec_PumpAll_k2
      simp only [ix_nat h, Int.toNat_natCast, bd_eq, pumped_spec (pfold l (ps.take k)).l (ps.getD k dSPump) (by omega) hn, Option.bind_some]
      rw [chk_dec (by simp; omega)]
      have key := ih ((pfold l (ps.take (k + 1))).came, (pfold l (ps.take (k + 1))).went, ((k + 1 : Nat) : Int), (pfold l (ps.take (k + 1))).l, (pfold l (ps.take (k + 1))).codes) ⟨k + 1, h, rfl⟩ (by simp; omega)
      rw [pfold_succ l ps h] at key
      unfold spec_PumpAll_k1 spec_PumpAll_k0
      simp only [ix_nat h, Int.toNat_natCast, bd_eq, bif_dec]
      rw [w64_succ (by omega)]
      unfold pstep at key
      dsimp only at key
      by_cases c0 : (pumped (pfold l (ps.take k)).l (ps.getD k dSPump)).2 = 0
      · by_cases c1 : (ps.getD k dSPump).From < 0
        · by_cases c2 : (ps.getD k dSPump).To < 0
          · simp only [c0, c1, c2, and_self, if_true] at key ⊢
            exact key
          · simp only [c0, c1, c2, and_self, and_false, if_true, if_false] at key ⊢
            exact key
        · by_cases c2 : (ps.getD k dSPump).To < 0
          · simp only [c0, c1, c2, and_self, and_false, if_true, if_false] at key ⊢
            exact key
          · simp only [c0, c1, c2, and_false, if_true, if_false] at key ⊢
            exact key
      · simp only [c0, false_and, if_false] at key ⊢
        exact key
    · have : k = ps.length := by omega
      subst this
      simp only [Int.lt_irrefl, decide_false, cond_false, List.take_length]
      rw [pumpAllR, if_pos h60]
  · refine loopN_ind (fun x => 0) (fun x => x = (0, 0, 0, l, [])) (fun x r => r = some (pumpAllR l ps)) ?_ n _ rfl (by omega)
    rintro _ J rfl ih
    unfold spec_PumpAll_L5
    have e1 : decide ((0 : Int) < (ps.length : Int)) = true := decide_eq_true (by omega)
    have e2 : decide ((ps.length : Int) ≤ 60) = false := decide_eq_false (by omega)
    dsimp only
    rw [e1, e2, pumpAllR, if_neg h60]
    rfl
theorem pumpAll_impl {n : Nat} (l : List SFuel) (ps : List SPump) (hl : l.length ≤ 1048576) (hps : ps.length ≤ 1048576) (hn : 1000000000 < n) : impl_PumpAll n l ps = some (pumpAllR l ps) := by
  unfold impl_PumpAll
  rw [own_fuel n l hl, Option.bind_some, bif_dec]
  by_cases h60 : ps.length ≤ 60
  · rw [if_neg (by omega)]
    unfold impl_PumpAll_k2
    refine loopN_ind (fun x => ps.length - x.2.2.1.toNat) (fun x => ∃ k : Nat, k ≤ ps.length ∧ x = ((pfold l (ps.take k)).came, (pfold l (ps.take k)).went, (k : Int), (pfold l (ps.take k)).l, (pfold l (ps.take k)).codes)) (fun x r => r = some (pumpAllR l ps)) ?_ n _ ⟨0, by omega, rfl⟩ (by simp; omega)
    rintro _ J ⟨k, hk, rfl⟩ ih
    obtain ⟨g1, g2⟩ := pfold_len l ps k hk
    unfold impl_PumpAll_L7
    by_cases h : k < ps.length
    · simp only [Int.ofNat_lt, h, decide_true, cond_true]
      unfold impl_PumpAll_k1
      simp only [ix_nat h, Int.toNat_natCast, bd_eq, pumped_impl (pfold l (ps.take k)).l (ps.getD k dSPump) (by omega) hn, Option.bind_some]
      rw [chk_dec (by simp; omega)]
      have key := ih ((pfold l (ps.take (k + 1))).came, (pfold l (ps.take (k + 1))).went, ((k + 1 : Nat) : Int), (pfold l (ps.take (k + 1))).l, (pfold l (ps.take (k + 1))).codes) ⟨k + 1, h, rfl⟩ (by simp; omega)
      rw [pfold_succ l ps h] at key
      unfold impl_PumpAll_k0
      simp only [bd_eq, bif_dec]
      rw [w64_succ (by omega)]
      unfold pstep at key
      dsimp only at key
      by_cases c0 : (pumped (pfold l (ps.take k)).l (ps.getD k dSPump)).2 = 0
      · by_cases c1 : (ps.getD k dSPump).From < 0
        · by_cases c2 : (ps.getD k dSPump).To < 0
          · simp only [c0, c1, c2, and_self, if_true] at key ⊢
            exact key
          · simp only [c0, c1, c2, and_self, and_false, if_true, if_false] at key ⊢
            exact key
        · by_cases c2 : (ps.getD k dSPump).To < 0
          · simp only [c0, c1, c2, and_self, and_false, if_true, if_false] at key ⊢
            exact key
          · simp only [c0, c1, c2, and_false, if_true, if_false] at key ⊢
            exact key
      · simp only [c0, false_and, if_false] at key ⊢
        exact key
    · have : k = ps.length := by omega
      subst this
      simp only [Int.lt_irrefl, decide_false, cond_false]
      rw [own_int7 n _ (by omega), Option.bind_some, List.take_length, pumpAllR, if_pos h60]
  · rw [if_pos (by omega), pumpAllR, if_neg h60]
theorem pumpAllR_len (l : List SFuel) (ps : List SPump) : (pumpAllR l ps).1.length = l.length ∧ (pumpAllR l ps).2.1.length ≤ 60 := by
  unfold pumpAllR
  split
  · have := pfold_len l ps ps.length (Nat.le_refl _)
    rw [List.take_length] at this
    exact ⟨this.1, by dsimp only; omega⟩
  · exact ⟨rfl, Nat.zero_le _⟩
end Go.Sm
namespace Go.Sm
attribute [local irreducible] bd chk ix loopN
theorem laws_FnExactPumpAll_true (aTanks0 : List SFuel) (aPumps1 : List SPump) (h0 : (aTanks0.length ≤ 9223372036854775807 ∧ ∀ y ∈ aTanks0, wfSFuel y)) (h1 : (aPumps1.length ≤ 9223372036854775807 ∧ ∀ y ∈ aPumps1, wfSPump y)) : ∃ n, laws_FnExactPumpAll n aTanks0 aPumps1 = some true := by
  refine ⟨1000000001, ?_⟩
  generalize hN : (1000000001 : Nat) = n
  have hn : 1000000000 < n := by omega
  unfold laws_FnExactPumpAll
  obtain ⟨r, hr1, hr2, hr3⟩ := laws_szFuelS_ok (n := n) aTanks0 (left := 1048576) h0 (by omega) (by omega) hn
  rw [hr1, Option.bind_some, bif_dec]
  split
  · rfl
  · have hl0 : aTanks0.length ≤ 1048576 := by have := hr3 (by omega); omega
    obtain ⟨s, hs1, hs2, hs3⟩ := laws_szPumpS_ok (n := n) aPumps1 (left := r) h1 (by omega) (by omega) hn
    rw [hs1, Option.bind_some, bif_dec]
    split
    · rfl
    · have hl1 : aPumps1.length ≤ 1048576 := by have := hs3 (by omega); omega
      obtain ⟨c1, c2⟩ := pumpAllR_len aTanks0 aPumps1
      have hS := pumpAll_spec (n := n) aTanks0 aPumps1 hl0 hl1 hn
      have hI := pumpAll_impl (n := n) aTanks0 aPumps1 hl0 hl1 hn
      generalize pumpAllR aTanks0 aPumps1 = R at *
      obtain ⟨R1, R2, R3, R4⟩ := R
      dsimp only at c1 c2
      obtain ⟨u1, m1, m2, m3⟩ := laws_markFuelS_ok (n := n) aTanks0 1 (by omega) (by omega) hn
      obtain ⟨u2, m4, m5, m6⟩ := laws_markPumpS_ok (n := n) aPumps1 (1 + 2 * (aTanks0.length : Int)) (by omega) (by omega) hn
      obtain ⟨v1, p1, p2, p3⟩ := laws_markFuelS_ok (n := n) R1 1 (by omega) (by omega) hn
      obtain ⟨v2, p4, p5, p6⟩ := laws_markIntS_ok (n := n) R2 (1 + 2 * (R1.length : Int)) (by omega) (by omega) hn
      have q1 := laws_heldFuelS_ok (n := n) v1 1 (by omega) (by omega) hn (by rw [p2]; exact p3)
      have q2 := laws_heldIntS_ok (n := n) v2 (1 + 2 * (R1.length : Int)) (by omega) (by omega) hn (by rw [p5]; exact p6)
      rw [p2] at q1
      rw [p5] at q2
      have d1 : decide (1 + 2 * (aTanks0.length : Int) + 3 * (aPumps1.length : Int) < 0) = false := decide_eq_false (by omega)
      have d2 : decide (1 + 2 * (R1.length : Int) < 0) = false := decide_eq_false (by omega)
      have d3 : decide (1 + 2 * (R1.length : Int) + 1 * (R2.length : Int) < 0) = false := decide_eq_false (by omega)
      unfold laws_FnExactPumpAll_k5 laws_FnExactPumpAll_k4 laws_FnExactPumpAll_k3 laws_FnExactPumpAll_k2 laws_FnExactPumpAll_k1 laws_FnExactPumpAll_k0
      simp only [laws_toFuelS_eq aTanks0 hl0 hn, laws_toPumpS_eq aPumps1 hl1 hn, hS, hI, Option.bind_some, laws_eqFuelS_eq aTanks0 hl0 hn, laws_eqPumpS_eq aPumps1 hl1 hn, laws_eqFuelS_eq R1 (show _ ≤ 1048576 by omega) hn, laws_eqIntS_eq R2 (show _ ≤ 1048576 by omega) hn,
        m1, m4, p1, p4, q1, q2, d1, d2, d3, decide_true, Bool.not_true, cond_false, cond_true]
end Go.Sm
end
