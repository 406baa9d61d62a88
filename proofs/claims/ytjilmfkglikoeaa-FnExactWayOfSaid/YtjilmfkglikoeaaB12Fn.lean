import Derived.Test.YtjilmfkglikoeaaEngA
/- The functions as plain functions over data, and that the law answers true for all arguments. WayOf: the cheapest way over a sea is told alike by the written-out search and by the built one, for every sea and all places. -/
section
set_option linter.unusedSimpArgs false
set_option linter.deprecated false
set_option linter.unusedSectionVars false
set_option linter.unusedVariables false
namespace Go.Sm
structure SClosed where
  X0 : Int
  Y0 : Int
  X1 : Int
  Y1 : Int
  From : Int
  To : Int
structure SSea where
  Wide : Int
  High : Int
  Costs : List Int
  Shut : List SClosed
def dSClosed : SClosed := ⟨(0 : Int), (0 : Int), (0 : Int), (0 : Int), (0 : Int), (0 : Int)⟩
def dSSea : SSea := ⟨(0 : Int), (0 : Int), [], []⟩
def laws_szIntS (n : Nat) (a0 : List Int) (left1 : Int) : Option Int :=
  (bd (w64 (left1 - (a0.length : Int))) fun (v1 : Int) => (bif (decide (v1 < (0 : Int))) then some ((-1 : Int)) else some (v1)))
def laws_szClosedS (n : Nat) (a0 : List SClosed) (left1 : Int) : Option Int :=
  (bd (w64 (left1 - (a0.length : Int))) fun (v1 : Int) => (bif (decide (v1 < (0 : Int))) then some ((-1 : Int)) else some (v1)))
def laws_szSea (n : Nat) (a0 : SSea) (left1 : Int) : Option Int :=
  (laws_szIntS n a0.Costs left1).bind fun r1 => (bif (decide (r1 < (0 : Int))) then some ((-1 : Int)) else (laws_szClosedS n a0.Shut r1).bind fun r5 => (bif (decide (r5 < (0 : Int))) then some ((-1 : Int)) else some (r5)))
def laws_toIntS_L3 {R : Type} (n : Nat) (kx0 : List Int → Option R) (J : Int → List Int → Option R) (a1 : List Int) (i2 : Int) (out3 : List Int) : Option R :=
  (bif (decide (i2 < (a1.length : Int))) then ix i2 a1.length (ix i2 out3.length (chk (decide (i2.toNat < out3.length)) ((bd (out3.set i2.toNat (a1.getD i2.toNat (0 : Int))) fun (l7 : List Int) => J (w64 (i2 + (1 : Int))) l7)))) else kx0 out3)
def laws_toIntS (n : Nat) (a0 : List Int) : Option (List Int) :=
  chk (decide ((0 : Int) ≤ (a0.length : Int))) (chk (decide ((a0.length : Int) ≤ (a0.length : Int))) (chk (decide ((a0.length : Int) ≤ 9223372036854775807 ∧ (a0.length : Int) * (8 : Int) ≤ 281474976710656)) (loopN (fun (x : Int × List Int) J' => laws_toIntS_L3 n (fun out8 => some (out8)) (fun i9 out10 => J' (i9, out10)) a0 x.1 x.2) n ((0 : Int), (List.replicate (a0.length : Int).toNat (0 : Int))))))
def laws_toClosed (n : Nat) (a0 : SClosed) : Option SClosed :=
  some (a0)
def laws_toClosedS_L3 {R : Type} (n : Nat) (kx0 : List SClosed → Option R) (J : Int → List SClosed → Option R) (a1 : List SClosed) (i2 : Int) (out3 : List SClosed) : Option R :=
  (bif (decide (i2 < (a1.length : Int))) then ix i2 a1.length ((bd (a1.getD i2.toNat dSClosed) fun (e8 : SClosed) => (laws_toClosed n e8).bind fun r9 => ix i2 out3.length (chk (decide (i2.toNat < out3.length)) (J (w64 (i2 + (1 : Int))) (out3.set i2.toNat r9))))) else kx0 out3)
def laws_toClosedS (n : Nat) (a0 : List SClosed) : Option (List SClosed) :=
  chk (decide ((0 : Int) ≤ (a0.length : Int))) (chk (decide ((a0.length : Int) ≤ (a0.length : Int))) (chk (decide ((a0.length : Int) ≤ 9223372036854775807 ∧ (a0.length : Int) * (48 : Int) ≤ 281474976710656)) (loopN (fun (x : Int × List SClosed) J' => laws_toClosedS_L3 n (fun out10 => some (out10)) (fun i11 out12 => J' (i11, out12)) a0 x.1 x.2) n ((0 : Int), (List.replicate (a0.length : Int).toNat dSClosed)))))
def laws_toSea (n : Nat) (a0 : SSea) : Option SSea :=
  (laws_toIntS n a0.Costs).bind fun r1 => (laws_toClosedS n a0.Shut).bind fun r2 => some ((⟨a0.Wide, a0.High, r1, r2⟩ : SSea))
def spec_l1In (n : Nat) (x0 : Int) (a1 : Int) (b2 : Int) : Option Bool :=
  (bif (decide (x0 ≥ a1)) then some ((decide (x0 ≤ b2))) else some (false))
def spec_l3All_L2 {R : Type} (n : Nat) (kx0 : Option R) (kxr : Bool → Option R) (J : Int → Option R) (list1 : List Int) (a2 : Int) (b3 : Int) (i4 : Int) : Option R :=
  (bif (decide (i4 < (list1.length : Int))) then ix i4 list1.length ((spec_l1In n (list1.getD i4.toNat (0 : Int)) a2 b3).bind fun r8 => (bif (!r8) then kxr false else J (w64 (i4 + (1 : Int))))) else kx0)
def spec_l3All (n : Nat) (list0 : List Int) (a1 : Int) (b2 : Int) : Option Bool :=
  loopN (fun (x : Int) J' => spec_l3All_L2 n (some (true)) (fun t10 => some (t10)) J' list0 a1 b2 x) n ((0 : Int))
def spec_SeaOk_k0 {R : Type} (n : Nat) (kx0 : Option R) (kxr : Bool → Option R) (J : Int → Option R) (i8 : Int) (s7 : SSea) : Option R :=
  ix i8 s7.Shut.length ((bd (s7.Shut.getD i8.toNat dSClosed) fun (e9 : SClosed) => (spec_l1In n e9.X0 (0 : Int) e9.X1).bind fun r10 => (bif (!r10) then kxr false else (spec_l1In n e9.Y0 (0 : Int) e9.Y1).bind fun r12 => (bif (!r12) then kxr false else (bif (decide (e9.X1 ≥ (12 : Int))) then kxr false else (bif (decide (e9.Y1 ≥ (12 : Int))) then kxr false else (spec_l1In n e9.From (0 : Int) e9.To).bind fun r16 => (bif (!r16) then kxr false else (bif (decide (e9.To > (1000000 : Int))) then kxr false else J (w64 (i8 + (1 : Int)))))))))))
def spec_SeaOk_L4 {R : Type} (n : Nat) (kx0 : Option R) (kxr : Bool → Option R) (J : Int → Option R) (i6 : Int) (s7 : SSea) : Option R :=
  (bif (decide (i6 < (s7.Shut.length : Int))) then spec_SeaOk_k0 n kx0 kxr J i6 s7 else kx0)
def spec_SeaOk (n : Nat) (s0 : SSea) : Option Bool :=
  (spec_l1In n s0.Wide (1 : Int) (12 : Int)).bind fun r1 => (bif (!r1) then some (false) else (spec_l1In n s0.High (1 : Int) (12 : Int)).bind fun r2 => (bif (!r2) then some (false) else (bd (w64 (s0.Wide * s0.High)) fun (v3 : Int) => (bif (!(decide ((s0.Costs.length : Int) = v3))) then some (false) else (bif (decide ((s0.Shut.length : Int) > (10 : Int))) then some (false) else (spec_l3All n s0.Costs (0 : Int) (1000 : Int)).bind fun r4 => (bif (!r4) then some (false) else loopN (fun (x : Int) J' => spec_SeaOk_L4 n (some (true)) (fun t26 => some (t26)) J' x s0) n ((0 : Int))))))))
def spec_l7Place (n : Nat) (s0 : SSea) (p1 : Int) : Option Bool :=
  (bd (w64 (s0.Wide * s0.High)) fun (v1 : Int) => (spec_l1In n p1 (0 : Int) (w64 (v1 - (1 : Int)))).bind fun r2 => some (r2))
def spec_l7Next (n : Nat) (s0 : SSea) (a1 : Int) (b2 : Int) : Option Bool :=
  (bif decide (s0.Wide = 0) then none else (bif decide (s0.Wide = 0) then none else (bd (w64 ((Int.tmod a1 s0.Wide) - (Int.tmod b2 s0.Wide))) fun (v1 : Int) => (bif decide (s0.Wide = 0) then none else (bd (w64 (Int.tdiv a1 s0.Wide)) fun (v2 : Int) => (bif decide (s0.Wide = 0) then none else (bd (w64 (Int.tdiv b2 s0.Wide)) fun (v3 : Int) => (bd (w64 ((w64 (v2 - v3)) * (w64 (v2 - v3)))) fun (v4 : Int) => (bd (w64 ((w64 (v1 * v1)) + v4)) fun (v5 : Int) => some ((decide (v5 = (1 : Int)))))))))))))
def spec_Cheapest_L5 {R : Type} (n : Nat) (kx0 : List Int → Option R) (J : Int → List Int → Option R) (from4 : Int) (i5 : Int) (s6 : SSea) (out7 : List Int) : Option R :=
  (bif (decide (i5 < (out7.length : Int))) then ix i5 out7.length (chk (decide (i5.toNat < out7.length)) ((bd (out7.set i5.toNat (-1 : Int)) fun (l11 : List Int) => J (w64 (i5 + (1 : Int))) l11))) else kx0 out7)
def spec_Cheapest_k0 {R : Type} (n : Nat) (kx6 : Bool → List Int → Option R) (J : Bool → Int → List Int → Option R) (again39 : Bool) (p27 : Int) (q40 : Int) (s29 : SSea) (out41 : List Int) : Option R :=
  ix q40 out41.length (chk (decide (q40.toNat < out41.length)) (ix p27 s29.Costs.length ((bd (w64 ((out41.getD q40.toNat (0 : Int)) + (s29.Costs.getD p27.toNat (0 : Int)))) fun (v42 : Int) => ix p27 out41.length (chk (decide (p27.toNat < out41.length)) (J true (w64 (q40 + (1 : Int))) (out41.set p27.toNat v42)))))))
def spec_Cheapest_k1 {R : Type} (n : Nat) (kx6 : Bool → List Int → Option R) (J : Bool → Int → List Int → Option R) (again46 : Bool) (p27 : Int) (q47 : Int) (t48 : Bool) (s29 : SSea) (out49 : List Int) : Option R :=
  (bif t48 then ix q47 out49.length (chk (decide (q47.toNat < out49.length)) (ix p27 s29.Costs.length ((bd (w64 ((out49.getD q47.toNat (0 : Int)) + (s29.Costs.getD p27.toNat (0 : Int)))) fun (v50 : Int) => ix p27 out49.length (chk (decide (p27.toNat < out49.length)) (J true (w64 (q47 + (1 : Int))) (out49.set p27.toNat v50))))))) else J again46 (w64 (q47 + (1 : Int))) out49)
def spec_Cheapest_k2 {R : Type} (n : Nat) (kx6 : Bool → List Int → Option R) (J : Bool → Int → List Int → Option R) (again35 : Bool) (p27 : Int) (q36 : Int) (s29 : SSea) (out37 : List Int) : Option R :=
  ix q36 out37.length (chk (decide (q36.toNat < out37.length)) ((bif (decide ((out37.getD q36.toNat (0 : Int)) ≥ (0 : Int))) then (spec_l7Next n s29 p27 q36).bind fun r38 => (bif r38 then ix p27 out37.length (chk (decide (p27.toNat < out37.length)) ((bif (decide ((out37.getD p27.toNat (0 : Int)) < (0 : Int))) then spec_Cheapest_k0 n kx6 J again35 p27 q36 s29 out37 else ix q36 out37.length (chk (decide (q36.toNat < out37.length)) (ix p27 s29.Costs.length ((bd (w64 ((out37.getD q36.toNat (0 : Int)) + (s29.Costs.getD p27.toNat (0 : Int)))) fun (v45 : Int) => ix p27 out37.length (chk (decide (p27.toNat < out37.length)) (spec_Cheapest_k1 n kx6 J again35 p27 q36 (decide (v45 < (out37.getD p27.toNat (0 : Int)))) s29 out37))))))))) else J again35 (w64 (q36 + (1 : Int))) out37) else J again35 (w64 (q36 + (1 : Int))) out37)))
def spec_Cheapest_L18 {R : Type} (n : Nat) (kx6 : Bool → List Int → Option R) (J : Bool → Int → List Int → Option R) (again26 : Bool) (p27 : Int) (q28 : Int) (s29 : SSea) (out30 : List Int) : Option R :=
  (bif (decide (q28 < (out30.length : Int))) then ix p27 s29.Costs.length ((bif (decide ((s29.Costs.getD p27.toNat (0 : Int)) > (0 : Int))) then spec_Cheapest_k2 n kx6 J again26 p27 q28 s29 out30 else kx6 again26 out30)) else kx6 again26 out30)
def spec_Cheapest_L15 {R : Type} (n : Nat) (kx4 : Bool → List Int → Option R) (J : Bool → Int → List Int → Option R) (again19 : Bool) (p20 : Int) (s21 : SSea) (out22 : List Int) : Option R :=
  (bif (decide (p20 < (out22.length : Int))) then loopN (fun (x : Bool × Int × List Int) J' => spec_Cheapest_L18 n (fun again82 out83 => J again82 (w64 (p20 + (1 : Int))) out83) (fun again84 q85 out86 => J' (again84, q85, out86)) x.1 p20 x.2.1 s21 x.2.2) n (again19, (0 : Int), out22) else kx4 again19 out22)
def spec_Cheapest_L12 {R : Type} (n : Nat) (kx2 : List Int → Option R) (J : Bool → List Int → Option R) (again15 : Bool) (s16 : SSea) (out17 : List Int) : Option R :=
  (bif again15 then loopN (fun (x : Bool × Int × List Int) J' => spec_Cheapest_L15 n (fun again92 out93 => J again92 out93) (fun again94 p95 out96 => J' (again94, p95, out96)) x.1 x.2.1 s16 x.2.2) n (false, (0 : Int), out17) else kx2 out17)
def spec_Cheapest_k3 (n : Nat)  (from1 : Int) (s0 : SSea) (out13 : List Int) : Option (List Int × Bool) :=
  ix from1 out13.length (chk (decide (from1.toNat < out13.length)) ((bd (out13.set from1.toNat (0 : Int)) fun (l14 : List Int) => loopN (fun (x : Bool × List Int) J' => spec_Cheapest_L12 n (fun out97 => some (out97, true)) (fun again98 out99 => J' (again98, out99)) x.1 s0 x.2) n (true, l14))))
def spec_Cheapest_k4 (n : Nat)  (from1 : Int) (s0 : SSea) : Option (List Int × Bool) :=
  chk (decide ((0 : Int) ≤ (s0.Costs.length : Int))) (chk (decide ((s0.Costs.length : Int) ≤ (s0.Costs.length : Int))) (chk (decide ((s0.Costs.length : Int) ≤ 9223372036854775807 ∧ (s0.Costs.length : Int) * (8 : Int) ≤ 281474976710656)) (loopN (fun (x : Int × List Int) J' => spec_Cheapest_L5 n (fun out12 => ix from1 s0.Costs.length ((bif (decide ((s0.Costs.getD from1.toNat (0 : Int)) = (0 : Int))) then some (out12, true) else spec_Cheapest_k3 n  from1 s0 out12))) (fun i100 out101 => J' (i100, out101)) from1 x.1 s0 x.2) n ((0 : Int), (List.replicate (s0.Costs.length : Int).toNat (0 : Int))))))
def spec_Cheapest (n : Nat) (s0 : SSea) (from1 : Int) : Option (List Int × Bool) :=
  (spec_SeaOk n s0).bind fun r1 => (bif (!r1) then some ([], false) else (spec_l7Place n s0 from1).bind fun r2 => (bif (!r2) then some ([], false) else spec_Cheapest_k4 n  from1 s0))
def spec_WayOf_k0 {R : Type} (n : Nat) (kx2 : Int → Option R) (J : Int → Option R) (from15 : Int) (p16 : Int) (q21 : Int) (s18 : SSea) (costs19 : List Int) (out20 : List Int) : Option R :=
  ix q21 costs19.length (chk (decide (q21.toNat < costs19.length)) ((bif (decide ((costs19.getD q21.toNat (0 : Int)) ≥ (0 : Int))) then (spec_l7Next n s18 p16 q21).bind fun r22 => (bif r22 then ix q21 costs19.length (chk (decide (q21.toNat < costs19.length)) (ix p16 s18.Costs.length ((bd (w64 ((costs19.getD q21.toNat (0 : Int)) + (s18.Costs.getD p16.toNat (0 : Int)))) fun (v23 : Int) => ix p16 costs19.length (chk (decide (p16.toNat < costs19.length)) ((bif (decide (v23 = (costs19.getD p16.toNat (0 : Int)))) then kx2 q21 else J (w64 (q21 + (1 : Int)))))))))) else J (w64 (q21 + (1 : Int)))) else J (w64 (q21 + (1 : Int))))))
def spec_WayOf_L8 {R : Type} (n : Nat) (kx2 : Int → Option R) (J : Int → Option R) (from15 : Int) (p16 : Int) (q17 : Int) (s18 : SSea) (costs19 : List Int) (out20 : List Int) : Option R :=
  (bif (decide (q17 < (costs19.length : Int))) then spec_WayOf_k0 n kx2 J from15 p16 q17 s18 costs19 out20 else kx2 p16)
def spec_WayOf_L6 {R : Type} (n : Nat) (kx0 : List Int → Option R) (J : Int → List Int → Option R) (from8 : Int) (p9 : Int) (s10 : SSea) (costs11 : List Int) (out12 : List Int) : Option R :=
  (bif (!(decide (p9 = from8))) then loopN (fun (x : Int) J' => spec_WayOf_L8 n (fun p35 => chk (decide (([p35] ++ out12).length * 8 ≤ 140737488355328)) (J p35 ([p35] ++ out12))) J' from8 p9 x s10 costs11 out12) n ((0 : Int)) else kx0 out12)
def spec_WayOf (n : Nat) (s0 : SSea) (from1 : Int) (to2 : Int) : Option (List Int × Bool) :=
  (spec_Cheapest n s0 from1).bind fun r1 => (bif (!r1.2) then some ([], false) else (spec_l7Place n s0 to2).bind fun r3 => (bif (!r3) then some ([], false) else ix to2 r1.1.length (chk (decide (to2.toNat < r1.1.length)) ((bif (decide ((r1.1.getD to2.toNat (0 : Int)) < (0 : Int))) then some ([], false) else loopN (fun (x : Int × List Int) J' => spec_WayOf_L6 n (fun out44 => some (out44, true)) (fun p45 out46 => J' (p45, out46)) from1 x.1 s0 r1.1 x.2) n (to2, [to2]))))))
def impl_in (n : Nat) (n0 : Int) (least1 : Int) (most2 : Int) : Option Bool :=
  (bif (decide (n0 ≥ least1)) then some ((decide (n0 ≤ most2))) else some (false))
def impl_all_1 (n : Nat) (n0 : Int) (a1 : Int) (a2 : Int) : Option Bool :=
  (impl_in n n0 a1 a2).bind fun r1 => some ((!r1))
def slices_IndexFunc_int_int__impl_all_1_L2 {R : Type} (n : Nat) (kx0 : Option R) (kxr : Int → Option R) (J : Int → Option R) (s1 : List Int) (f2 : Int) (f3 : Int) (t4 : Int) (t5 : Int) : Option R :=
  (bif (decide (t5 < t4)) then ix t5 s1.length ((impl_all_1 n (s1.getD t5.toNat (0 : Int)) f2 f3).bind fun r9 => (bif r9 then kxr t5 else J (w64 (t5 + (1 : Int))))) else kx0)
def slices_IndexFunc_int_int__impl_all_1 (n : Nat) (s0 : List Int) (f1c0 : Int) (f1c1 : Int) : Option Int :=
  loopN (fun (x : Int) J' => slices_IndexFunc_int_int__impl_all_1_L2 n (some ((-1 : Int))) (fun t11 => some (t11)) J' s0 f1c0 f1c1 (s0.length : Int) x) n ((0 : Int))
def slices_ContainsFunc_int_int__impl_all_1 (n : Nat) (s0 : List Int) (f1c0 : Int) (f1c1 : Int) : Option Bool :=
  (slices_IndexFunc_int_int__impl_all_1 n s0 f1c0 f1c1).bind fun r1 => some ((decide (r1 ≥ (0 : Int))))
def impl_all (n : Nat) (l0 : List Int) (least1 : Int) (most2 : Int) : Option Bool :=
  (slices_ContainsFunc_int_int__impl_all_1 n l0 least1 most2).bind fun r1 => some ((!r1))
def impl_SeaOk_k0 {R : Type} (n : Nat) (kx0 : Option R) (kxr : Bool → Option R) (J : Int → Option R) (t6 : List SClosed) (t7 : Int) (t9 : Int) : Option R :=
  ix t9 t6.length ((bd (t6.getD t9.toNat dSClosed) fun (e10 : SClosed) => (impl_in n e10.X0 (0 : Int) e10.X1).bind fun r11 => (bif (!r11) then kxr false else (bif (decide (e10.X1 > (11 : Int))) then kxr false else (impl_in n e10.Y0 (0 : Int) e10.Y1).bind fun r14 => (bif (!r14) then kxr false else (bif (decide (e10.Y1 > (11 : Int))) then kxr false else (impl_in n e10.From (0 : Int) e10.To).bind fun r17 => (bif (!r17) then kxr false else (bif (decide (e10.To > (1000000 : Int))) then kxr false else J (w64 (t9 + (1 : Int)))))))))))
def impl_SeaOk_L4 {R : Type} (n : Nat) (kx0 : Option R) (kxr : Bool → Option R) (J : Int → Option R) (t6 : List SClosed) (t7 : Int) (t8 : Int) : Option R :=
  (bif (decide (t8 < t7)) then impl_SeaOk_k0 n kx0 kxr J t6 t7 t8 else kx0)
def impl_SeaOk (n : Nat) (s0 : SSea) : Option Bool :=
  (impl_in n s0.Wide (1 : Int) (12 : Int)).bind fun r1 => (bif (!r1) then some (false) else (impl_in n s0.High (1 : Int) (12 : Int)).bind fun r2 => (bif (!r2) then some (false) else (bd (w64 (s0.Wide * s0.High)) fun (v3 : Int) => (bif (!(decide ((s0.Costs.length : Int) = v3))) then some (false) else (impl_all n s0.Costs (0 : Int) (1000 : Int)).bind fun r4 => (bif (!r4) then some (false) else (bif (decide ((s0.Shut.length : Int) > (10 : Int))) then some (false) else loopN (fun (x : Int) J' => impl_SeaOk_L4 n (some (true)) (fun t27 => some (t27)) J' s0.Shut (s0.Shut.length : Int) x) n ((0 : Int))))))))
def impl_Sea_place (n : Nat) (s0 : SSea) (p1 : Int) : Option Bool :=
  (bd (w64 ((s0.Costs.length : Int) - (1 : Int))) fun (v1 : Int) => (impl_in n p1 (0 : Int) v1).bind fun r2 => some (r2))
def impl_Sea_next_k0 (n : Nat)  (p1 : Int) (x6 : Int) (y7 : Int) (s0 : SSea) (t8 : List Int) : Option (List Int) :=
  (bd (w64 (s0.Wide - (1 : Int))) fun (v9 : Int) => (bif (decide (x6 < v9)) then (bd (t8 ++ [(w64 (p1 + (1 : Int)))]) fun (l10 : List Int) => chk (decide (l10.length * 8 ≤ 140737488355328)) ((bd (w64 (s0.High - (1 : Int))) fun (v17 : Int) => (bif (decide (y7 < v17)) then (bd (l10 ++ [(w64 (p1 + s0.Wide))]) fun (l18 : List Int) => chk (decide (l18.length * 8 ≤ 140737488355328)) (some (l18))) else some (l10))))) else (bd (w64 (s0.High - (1 : Int))) fun (v27 : Int) => (bif (decide (y7 < v27)) then (bd (t8 ++ [(w64 (p1 + s0.Wide))]) fun (l28 : List Int) => chk (decide (l28.length * 8 ≤ 140737488355328)) (some (l28))) else some (t8)))))
def impl_Sea_next_k1 (n : Nat)  (p1 : Int) (x31 : Int) (y32 : Int) (s0 : SSea) (t33 : List Int) : Option (List Int) :=
  (bd (w64 (s0.Wide - (1 : Int))) fun (v34 : Int) => (bif (decide (x31 < v34)) then (bd (t33 ++ [(w64 (p1 + (1 : Int)))]) fun (l35 : List Int) => chk (decide (l35.length * 8 ≤ 140737488355328)) ((bd (w64 (s0.High - (1 : Int))) fun (v38 : Int) => (bif (decide (y32 < v38)) then (bd (l35 ++ [(w64 (p1 + s0.Wide))]) fun (l39 : List Int) => chk (decide (l39.length * 8 ≤ 140737488355328)) (some (l39))) else some (l35))))) else (bd (w64 (s0.High - (1 : Int))) fun (v48 : Int) => (bif (decide (y32 < v48)) then (bd (t33 ++ [(w64 (p1 + s0.Wide))]) fun (l49 : List Int) => chk (decide (l49.length * 8 ≤ 140737488355328)) (some (l49))) else some (t33)))))
def impl_Sea_next_k2 (n : Nat)  (p1 : Int) (x61 : Int) (y62 : Int) (s0 : SSea) (t63 : List Int) : Option (List Int) :=
  (bd (w64 (s0.Wide - (1 : Int))) fun (v64 : Int) => (bif (decide (x61 < v64)) then (bd (t63 ++ [(w64 (p1 + (1 : Int)))]) fun (l65 : List Int) => chk (decide (l65.length * 8 ≤ 140737488355328)) ((bd (w64 (s0.High - (1 : Int))) fun (v72 : Int) => (bif (decide (y62 < v72)) then (bd (l65 ++ [(w64 (p1 + s0.Wide))]) fun (l73 : List Int) => chk (decide (l73.length * 8 ≤ 140737488355328)) (some (l73))) else some (l65))))) else (bd (w64 (s0.High - (1 : Int))) fun (v82 : Int) => (bif (decide (y62 < v82)) then (bd (t63 ++ [(w64 (p1 + s0.Wide))]) fun (l83 : List Int) => chk (decide (l83.length * 8 ≤ 140737488355328)) (some (l83))) else some (t63)))))
def impl_Sea_next_k3 (n : Nat)  (p1 : Int) (x86 : Int) (y87 : Int) (s0 : SSea) : Option (List Int) :=
  (bd (w64 (s0.Wide - (1 : Int))) fun (v88 : Int) => (bif (decide (x86 < v88)) then (bd (w64 (s0.High - (1 : Int))) fun (v95 : Int) => (bif (decide (y87 < v95)) then (bd [(w64 (p1 + (1 : Int))), (w64 (p1 + s0.Wide))] fun (l96 : List Int) => chk (decide (l96.length * 8 ≤ 140737488355328)) (some (l96))) else some ([(w64 (p1 + (1 : Int)))]))) else (bd (w64 (s0.High - (1 : Int))) fun (v102 : Int) => (bif (decide (y87 < v102)) then some ([(w64 (p1 + s0.Wide))]) else some ([])))))
def impl_Sea_next (n : Nat) (s0 : SSea) (p1 : Int) : Option (List Int) :=
  (bif decide (s0.Wide = 0) then none else (bif decide (s0.Wide = 0) then none else (bd (w64 (Int.tdiv p1 s0.Wide)) fun (v1 : Int) => (bif (decide (v1 > (0 : Int))) then (bif (decide ((Int.tmod p1 s0.Wide) > (0 : Int))) then (bd [(w64 (p1 - s0.Wide)), (w64 (p1 - (1 : Int)))] fun (l52 : List Int) => chk (decide (l52.length * 8 ≤ 140737488355328)) (impl_Sea_next_k0 n  p1 (Int.tmod p1 s0.Wide) v1 s0 l52)) else impl_Sea_next_k1 n  p1 (Int.tmod p1 s0.Wide) v1 s0 [(w64 (p1 - s0.Wide))]) else (bif (decide ((Int.tmod p1 s0.Wide) > (0 : Int))) then impl_Sea_next_k2 n  p1 (Int.tmod p1 s0.Wide) v1 s0 [(w64 (p1 - (1 : Int)))] else impl_Sea_next_k3 n  p1 (Int.tmod p1 s0.Wide) v1 s0)))))
def impl_Cheapest_L5 {R : Type} (n : Nat) (kx0 : List Int → Option R) (J : Int → List Int → Option R) (from4 : Int) (t5 : Int) (t6 : Int) (s7 : SSea) (out8 : List Int) : Option R :=
  (bif (decide (t6 < t5)) then ix t6 out8.length (chk (decide (t6.toNat < out8.length)) ((bd (out8.set t6.toNat (-1 : Int)) fun (l12 : List Int) => J (w64 (t6 + (1 : Int))) l12))) else kx0 out8)
def impl_Cheapest_k0 {R : Type} (n : Nat) (kx6 : Bool → List Int → Option R) (J : Bool → Int → List Int → Option R) (again46 : Bool) (d38 : Int) (t39 : Int) (t40 : Int) (t41 : Int) (t47 : Int) (s43 : SSea) (t48 : List Int) (t45 : List Int) : Option R :=
  ix t47 t45.length (chk (decide (t47.toNat < t45.length)) (ix (t45.getD t47.toNat (0 : Int)) s43.Costs.length ((bd (s43.Costs.getD ((t45.getD t47.toNat (0 : Int)).toNat) (0 : Int)) fun (e49 : Int) => (bif (decide (e49 > (0 : Int))) then ix (t45.getD t47.toNat (0 : Int)) t48.length (chk (decide ((t45.getD t47.toNat (0 : Int)).toNat < t48.length)) ((bif (decide ((t48.getD ((t45.getD t47.toNat (0 : Int)).toNat) (0 : Int)) < (0 : Int))) then ix (t45.getD t47.toNat (0 : Int)) t48.length (chk (decide ((t45.getD t47.toNat (0 : Int)).toNat < t48.length)) ((bd (t48.set ((t45.getD t47.toNat (0 : Int)).toNat) (w64 (d38 + e49))) fun (l58 : List Int) => J true (w64 (t47 + (1 : Int))) l58))) else ix (t45.getD t47.toNat (0 : Int)) t48.length (chk (decide ((t45.getD t47.toNat (0 : Int)).toNat < t48.length)) ((bif (decide ((t48.getD ((t45.getD t47.toNat (0 : Int)).toNat) (0 : Int)) > (w64 (d38 + e49)))) then ix (t45.getD t47.toNat (0 : Int)) t48.length (chk (decide ((t45.getD t47.toNat (0 : Int)).toNat < t48.length)) ((bd (t48.set ((t45.getD t47.toNat (0 : Int)).toNat) (w64 (d38 + e49))) fun (l73 : List Int) => J true (w64 (t47 + (1 : Int))) l73))) else J again46 (w64 (t47 + (1 : Int))) t48)))))) else J again46 (w64 (t47 + (1 : Int))) t48)))))
def impl_Cheapest_L20 {R : Type} (n : Nat) (kx6 : Bool → List Int → Option R) (J : Bool → Int → List Int → Option R) (again37 : Bool) (d38 : Int) (t39 : Int) (t40 : Int) (t41 : Int) (t42 : Int) (s43 : SSea) (t44 : List Int) (t45 : List Int) : Option R :=
  (bif (decide (t42 < t41)) then impl_Cheapest_k0 n kx6 J again37 d38 t39 t40 t41 t42 s43 t44 t45 else kx6 again37 t44)
def impl_Cheapest_k1 {R : Type} (n : Nat) (kx4 : Bool → List Int → Option R) (J : Bool → Int → List Int → Option R) (again31 : Bool) (p32 : Int) (d33 : Int) (t21 : Int) (t34 : Int) (s23 : SSea) (t35 : List Int) : Option R :=
  (impl_Sea_next n s23 p32).bind fun r36 => loopN (fun (x : Bool × Int × List Int) J' => impl_Cheapest_L20 n (fun again90 t91 => J again90 (w64 (t34 + (1 : Int))) t91) (fun again95 t96 t97 => J' (again95, t96, t97)) x.1 d33 t21 t34 (r36.length : Int) x.2.1 s23 x.2.2 r36) n (again31, (0 : Int), t35)
def impl_Cheapest_L16 {R : Type} (n : Nat) (kx4 : Bool → List Int → Option R) (J : Bool → Int → List Int → Option R) (again20 : Bool) (t21 : Int) (t22 : Int) (s23 : SSea) (t24 : List Int) : Option R :=
  (bif (decide (t22 < t21)) then ix t22 t24.length (chk (decide (t22.toNat < t24.length)) ((bif (decide ((t24.getD t22.toNat (0 : Int)) < (0 : Int))) then J again20 (w64 (t22 + (1 : Int))) t24 else impl_Cheapest_k1 n kx4 J again20 t22 (t24.getD t22.toNat (0 : Int)) t21 t22 s23 t24))) else kx4 again20 t24)
def impl_Cheapest_L13 {R : Type} (n : Nat) (kx2 : List Int → Option R) (J : Bool → List Int → Option R) (again16 : Bool) (s17 : SSea) (out18 : List Int) : Option R :=
  (bif again16 then loopN (fun (x : Bool × Int × List Int) J' => impl_Cheapest_L16 n (fun again111 out112 => J again111 out112) (fun again113 t114 t115 => J' (again113, t114, t115)) x.1 (out18.length : Int) x.2.1 s17 x.2.2) n (false, (0 : Int), out18) else kx2 out18)
def impl_Cheapest_k2 (n : Nat)  (from1 : Int) (s0 : SSea) (out14 : List Int) : Option (List Int × Bool) :=
  ix from1 out14.length (chk (decide (from1.toNat < out14.length)) ((bd (out14.set from1.toNat (0 : Int)) fun (l15 : List Int) => loopN (fun (x : Bool × List Int) J' => impl_Cheapest_L13 n (fun out116 => some (out116, true)) (fun again117 out118 => J' (again117, out118)) x.1 s0 x.2) n (true, l15))))
def impl_Cheapest_k3 (n : Nat)  (from1 : Int) (s0 : SSea) : Option (List Int × Bool) :=
  chk (decide ((0 : Int) ≤ (s0.Costs.length : Int))) (chk (decide ((s0.Costs.length : Int) ≤ (s0.Costs.length : Int))) (chk (decide ((s0.Costs.length : Int) ≤ 9223372036854775807 ∧ (s0.Costs.length : Int) * (8 : Int) ≤ 281474976710656)) (loopN (fun (x : Int × List Int) J' => impl_Cheapest_L5 n (fun out13 => ix from1 s0.Costs.length ((bif (decide ((s0.Costs.getD from1.toNat (0 : Int)) = (0 : Int))) then some (out13, true) else impl_Cheapest_k2 n  from1 s0 out13))) (fun t119 out120 => J' (t119, out120)) from1 ((List.replicate (s0.Costs.length : Int).toNat (0 : Int)).length : Int) x.1 s0 x.2) n ((0 : Int), (List.replicate (s0.Costs.length : Int).toNat (0 : Int))))))
def impl_Cheapest (n : Nat) (s0 : SSea) (from1 : Int) : Option (List Int × Bool) :=
  (impl_SeaOk n s0).bind fun r1 => (bif (!r1) then some ([], false) else (impl_Sea_place n s0 from1).bind fun r2 => (bif (!r2) then some ([], false) else impl_Cheapest_k3 n  from1 s0))
def impl_own_int (n : Nat) (l0 : List Int) : Option (List Int) :=
  chk (decide ((0 : Int) ≤ (l0.length : Int))) (chk (decide ((l0.length : Int) ≤ 9223372036854775807 ∧ (l0.length : Int) * (8 : Int) ≤ 281474976710656)) (chk (decide (l0.length * 8 ≤ 140737488355328)) (some (l0))))
def impl_WayOf_k0 {R : Type} (n : Nat) (kx2 : Int → Option R) (J : Int → Option R) (from16 : Int) (p17 : Int) (t18 : Int) (t24 : Int) (s20 : SSea) (d21 : List Int) (way22 : List Int) (t23 : List Int) : Option R :=
  ix t24 t23.length (chk (decide (t24.toNat < t23.length)) (ix (t23.getD t24.toNat (0 : Int)) d21.length (chk (decide ((t23.getD t24.toNat (0 : Int)).toNat < d21.length)) ((bif (decide ((d21.getD ((t23.getD t24.toNat (0 : Int)).toNat) (0 : Int)) ≥ (0 : Int))) then ix (t23.getD t24.toNat (0 : Int)) d21.length (chk (decide ((t23.getD t24.toNat (0 : Int)).toNat < d21.length)) (ix p17 s20.Costs.length ((bd (w64 ((d21.getD ((t23.getD t24.toNat (0 : Int)).toNat) (0 : Int)) + (s20.Costs.getD p17.toNat (0 : Int)))) fun (v25 : Int) => ix p17 d21.length (chk (decide (p17.toNat < d21.length)) ((bif (decide (v25 = (d21.getD p17.toNat (0 : Int)))) then kx2 (t23.getD t24.toNat (0 : Int)) else J (w64 (t24 + (1 : Int)))))))))) else J (w64 (t24 + (1 : Int))))))))
def impl_WayOf_L8 {R : Type} (n : Nat) (kx2 : Int → Option R) (J : Int → Option R) (from16 : Int) (p17 : Int) (t18 : Int) (t19 : Int) (s20 : SSea) (d21 : List Int) (way22 : List Int) (t23 : List Int) : Option R :=
  (bif (decide (t19 < t18)) then impl_WayOf_k0 n kx2 J from16 p17 t18 t19 s20 d21 way22 t23 else kx2 p17)
def impl_WayOf_L6 {R : Type} (n : Nat) (kx0 : List Int → Option R) (J : Int → List Int → Option R) (from8 : Int) (p9 : Int) (s10 : SSea) (d11 : List Int) (way12 : List Int) : Option R :=
  (bif (!(decide (p9 = from8))) then (impl_Sea_next n s10 p9).bind fun r37 => loopN (fun (x : Int) J' => impl_WayOf_L8 n (fun p38 => chk (decide ((way12 ++ [p38]).length * 8 ≤ 140737488355328)) (J p38 (way12 ++ [p38]))) J' from8 p9 (r37.length : Int) x s10 d11 way12 r37) n ((0 : Int)) else kx0 way12)
def impl_WayOf_k1 {R : Type} (n : Nat) (kx4 : List Int → Option R) (J : Int → Int → List Int → Option R) (i45 : Int) (k46 : Int) (way47 : List Int) : Option R :=
  ix k46 way47.length (chk (decide (k46.toNat < way47.length)) (ix i45 way47.length (chk (decide (i45.toNat < way47.length)) (ix i45 way47.length (chk (decide (i45.toNat < way47.length)) ((bd (way47.set i45.toNat (way47.getD k46.toNat (0 : Int))) fun (l48 : List Int) => ix k46 l48.length (chk (decide (k46.toNat < l48.length)) ((bd (l48.set k46.toNat (way47.getD i45.toNat (0 : Int))) fun (l49 : List Int) => J (w64 (i45 + (1 : Int))) (w64 (k46 - (1 : Int))) l49))))))))))
def impl_WayOf_L15 {R : Type} (n : Nat) (kx4 : List Int → Option R) (J : Int → Int → List Int → Option R) (i42 : Int) (k43 : Int) (way44 : List Int) : Option R :=
  (bif (decide (i42 < k43)) then impl_WayOf_k1 n kx4 J i42 k43 way44 else kx4 way44)
def impl_WayOf_k2 (n : Nat)  (from1 : Int) (to2 : Int) (s0 : SSea) (t7 : List Int) : Option (List Int × Bool) :=
  loopN (fun (x : Int × List Int) J' => impl_WayOf_L6 n (fun way40 => (bd (w64 ((way40.length : Int) - (1 : Int))) fun (v41 : Int) => loopN (fun (x : Int × Int × List Int) J' => impl_WayOf_L15 n (fun way50 => (impl_own_int n way50).bind fun r51 => some (r51, true)) (fun i52 k53 way54 => J' (i52, k53, way54)) x.1 x.2.1 x.2.2) n ((0 : Int), v41, way40))) (fun p55 way56 => J' (p55, way56)) from1 x.1 s0 t7 x.2) n (to2, [to2])
def impl_WayOf (n : Nat) (s0 : SSea) (from1 : Int) (to2 : Int) : Option (List Int × Bool) :=
  (impl_Cheapest n s0 from1).bind fun r1 => (bif (!r1.2) then some ([], false) else (impl_Sea_place n s0 to2).bind fun r3 => (bif (!r3) then some ([], false) else ix to2 r1.1.length (chk (decide (to2.toNat < r1.1.length)) ((bif (decide ((r1.1.getD to2.toNat (0 : Int)) < (0 : Int))) then some ([], false) else impl_WayOf_k2 n  from1 to2 s0 r1.1)))))
def laws_eqIntS_L4 {R : Type} (n : Nat) (kx0 : Option R) (kxr : Bool → Option R) (J : Int → Option R) (a1 : List Int) (b2 : List Int) (i3 : Int) : Option R :=
  (bif (decide (i3 < (a1.length : Int))) then ix i3 a1.length (ix i3 b2.length ((bif (!(decide ((a1.getD i3.toNat (0 : Int)) = (b2.getD i3.toNat (0 : Int))))) then kxr false else J (w64 (i3 + (1 : Int)))))) else kx0)
def laws_eqIntS (n : Nat) (a0 : List Int) (b1 : List Int) : Option Bool :=
  (bif (!(decide ((a0.length : Int) = (b1.length : Int)))) then some (false) else loopN (fun (x : Int) J' => laws_eqIntS_L4 n (some (true)) (fun t9 => some (t9)) J' a0 b1 x) n ((0 : Int)))
def laws_eqClosed_k0 (n : Nat)  (a0 : SClosed) (b1 : SClosed) : Option Bool :=
  (bif (!(decide (a0.Y0 = b1.Y0))) then some (false) else (bif (!(decide (a0.X1 = b1.X1))) then some (false) else (bif (!(decide (a0.Y1 = b1.Y1))) then some (false) else (bif (!(decide (a0.From = b1.From))) then some (false) else (bif (!(decide (a0.To = b1.To))) then some (false) else some (true))))))
def laws_eqClosed (n : Nat) (a0 : SClosed) (b1 : SClosed) : Option Bool :=
  (bif (!(decide (a0.X0 = b1.X0))) then some (false) else laws_eqClosed_k0 n  a0 b1)
def laws_eqClosedS_L4 {R : Type} (n : Nat) (kx0 : Option R) (kxr : Bool → Option R) (J : Int → Option R) (a1 : List SClosed) (b2 : List SClosed) (i3 : Int) : Option R :=
  (bif (decide (i3 < (a1.length : Int))) then ix i3 a1.length ((bd (a1.getD i3.toNat dSClosed) fun (e9 : SClosed) => ix i3 b2.length ((bd (b2.getD i3.toNat dSClosed) fun (e10 : SClosed) => (laws_eqClosed n e9 e10).bind fun r11 => (bif (!r11) then kxr false else J (w64 (i3 + (1 : Int)))))))) else kx0)
def laws_eqClosedS (n : Nat) (a0 : List SClosed) (b1 : List SClosed) : Option Bool :=
  (bif (!(decide ((a0.length : Int) = (b1.length : Int)))) then some (false) else loopN (fun (x : Int) J' => laws_eqClosedS_L4 n (some (true)) (fun t15 => some (t15)) J' a0 b1 x) n ((0 : Int)))
def laws_eqSea (n : Nat) (a0 : SSea) (b1 : SSea) : Option Bool :=
  (bif (!(decide (a0.Wide = b1.Wide))) then some (false) else (bif (!(decide (a0.High = b1.High))) then some (false) else (laws_eqIntS n a0.Costs b1.Costs).bind fun r6 => (bif (!r6) then some (false) else (laws_eqClosedS n a0.Shut b1.Shut).bind fun r7 => (bif (!r7) then some (false) else some (true)))))
def laws_markIntS_L2 {R : Type} (n : Nat) (kx0 : Int → List Int → Option R) (J : Int → Int → List Int → Option R) (k1 : Int) (i2 : Int) (p3 : List Int) : Option R :=
  (bif (decide (i2 < (p3.length : Int))) then ix i2 p3.length (chk (decide (i2.toNat < p3.length)) (J (w64 (k1 + (1 : Int))) (w64 (i2 + (1 : Int))) (p3.set i2.toNat k1))) else kx0 k1 p3)
def laws_markIntS (n : Nat) (a0 : List Int) (k1 : Int) : Option (Int × List Int) :=
  loopN (fun (x : Int × Int × List Int) J' => laws_markIntS_L2 n (fun k7 p8 => some (k7, p8)) (fun k9 i10 p11 => J' (k9, i10, p11)) x.1 x.2.1 x.2.2) n (k1, (0 : Int), a0)
def laws_markClosedS_k0 {R : Type} (n : Nat) (kx0 : Int → List SClosed → Option R) (J : Int → Int → List SClosed → Option R) (k4 : Int) (i5 : Int) (p6 : List SClosed) : Option R :=
  ix i5 p6.length (chk (decide (i5.toNat < p6.length)) ((bd (p6.getD i5.toNat dSClosed) fun (e7 : SClosed) => (bd (p6.set i5.toNat (⟨k4, e7.Y0, e7.X1, e7.Y1, e7.From, e7.To⟩ : SClosed)) fun (l8 : List SClosed) => ix i5 l8.length (chk (decide (i5.toNat < l8.length)) ((bd (l8.getD i5.toNat dSClosed) fun (e9 : SClosed) => (bd (l8.set i5.toNat (⟨e9.X0, (w64 (k4 + (1 : Int))), e9.X1, e9.Y1, e9.From, e9.To⟩ : SClosed)) fun (l10 : List SClosed) => (bd (w64 ((w64 (k4 + (1 : Int))) + (1 : Int))) fun (v11 : Int) => ix i5 l10.length (chk (decide (i5.toNat < l10.length)) ((bd (l10.getD i5.toNat dSClosed) fun (e12 : SClosed) => (bd (l10.set i5.toNat (⟨e12.X0, e12.Y0, v11, e12.Y1, e12.From, e12.To⟩ : SClosed)) fun (l13 : List SClosed) => ix i5 l13.length (chk (decide (i5.toNat < l13.length)) ((bd (l13.getD i5.toNat dSClosed) fun (e14 : SClosed) => (bd (l13.set i5.toNat (⟨e14.X0, e14.Y0, e14.X1, (w64 (v11 + (1 : Int))), e14.From, e14.To⟩ : SClosed)) fun (l15 : List SClosed) => (bd (w64 ((w64 (v11 + (1 : Int))) + (1 : Int))) fun (v16 : Int) => ix i5 l15.length (chk (decide (i5.toNat < l15.length)) ((bd (l15.getD i5.toNat dSClosed) fun (e17 : SClosed) => (bd (l15.set i5.toNat (⟨e17.X0, e17.Y0, e17.X1, e17.Y1, v16, e17.To⟩ : SClosed)) fun (l18 : List SClosed) => ix i5 l18.length (chk (decide (i5.toNat < l18.length)) ((bd (l18.getD i5.toNat dSClosed) fun (e19 : SClosed) => (bd (l18.set i5.toNat (⟨e19.X0, e19.Y0, e19.X1, e19.Y1, e19.From, (w64 (v16 + (1 : Int)))⟩ : SClosed)) fun (l20 : List SClosed) => (bd (w64 ((w64 (v16 + (1 : Int))) + (1 : Int))) fun (v21 : Int) => J v21 (w64 (i5 + (1 : Int))) l20)))))))))))))))))))))))))))
def laws_markClosedS_L2 {R : Type} (n : Nat) (kx0 : Int → List SClosed → Option R) (J : Int → Int → List SClosed → Option R) (k1 : Int) (i2 : Int) (p3 : List SClosed) : Option R :=
  (bif (decide (i2 < (p3.length : Int))) then laws_markClosedS_k0 n kx0 J k1 i2 p3 else kx0 k1 p3)
def laws_markClosedS (n : Nat) (a0 : List SClosed) (k1 : Int) : Option (Int × List SClosed) :=
  loopN (fun (x : Int × Int × List SClosed) J' => laws_markClosedS_L2 n (fun k22 p23 => some (k22, p23)) (fun k24 i25 p26 => J' (k24, i25, p26)) x.1 x.2.1 x.2.2) n (k1, (0 : Int), a0)
def laws_markSea (n : Nat) (a0 : SSea) (k1 : Int) : Option (Int × List Int × List SClosed) :=
  (laws_markIntS n a0.Costs k1).bind fun r1 => (laws_markClosedS n a0.Shut r1.1).bind fun r2 => some (r2.1, r1.2, r2.2)
def laws_heldIntS_L2 {R : Type} (n : Nat) (kx0 : Int → Option R) (kxr : Int → Option R) (J : Int → Int → Option R) (a1 : List Int) (k2 : Int) (i3 : Int) : Option R :=
  (bif (decide (i3 < (a1.length : Int))) then ix i3 a1.length ((bif (!(decide ((a1.getD i3.toNat (0 : Int)) = k2))) then kxr (-1 : Int) else J (w64 (k2 + (1 : Int))) (w64 (i3 + (1 : Int))))) else kx0 k2)
def laws_heldIntS (n : Nat) (a0 : List Int) (k1 : Int) : Option Int :=
  loopN (fun (x : Int × Int) J' => laws_heldIntS_L2 n (fun k16 => some (k16)) (fun t17 => some (t17)) (fun k18 i19 => J' (k18, i19)) a0 x.1 x.2) n (k1, (0 : Int))
def laws_FnExactWayOf_k0 (n : Nat)  (aFrom1 : Int) (aTo2 : Int) (w164 : Bool) (m65 : Int) (aS0 : SSea) (t66 : List Int) (t67 : List Int) : Option Bool :=
  (laws_toSea n aS0).bind fun r68 => (impl_WayOf n r68 aFrom1 aTo2).bind fun r69 => (laws_eqIntS n r69.1 t66).bind fun r70 => (bif (!r70) then some (false) else (bif (!(r69.2 == w164)) then some (false) else (laws_heldIntS n t67 (1 : Int)).bind fun r86 => (bif (decide (r86 < (0 : Int))) then some (false) else (bif (!(decide (r86 = m65))) then some (false) else some (true)))))
def laws_FnExactWayOf_k1 (n : Nat)  (aFrom1 : Int) (aTo2 : Int) (w150 : Bool) (t51 : Bool) (aS0 : SSea) (t52 : List Int) (t53 : List Int) : Option Bool :=
  (bif t51 then some (false) else (laws_markIntS n t53 (1 : Int)).bind fun r93 => (laws_heldIntS n r93.2 (1 : Int)).bind fun r94 => (bif (decide (r94 < (0 : Int))) then some (false) else (bif (!(decide (r94 = r93.1))) then some (false) else laws_FnExactWayOf_k0 n  aFrom1 aTo2 w150 r93.1 aS0 t52 r93.2)))
def laws_FnExactWayOf_k2 (n : Nat)  (aFrom1 : Int) (aTo2 : Int) (w124 : Bool) (g125 : Bool) (aS0 : SSea) (t26 : List Int) (x027 : Int) (x028 : Int) (t29 : List Int) (t30 : List SClosed) (t31 : List Int) : Option Bool :=
  (laws_toSea n aS0).bind fun r32 => (laws_eqSea n (⟨x027, x028, t29, t30⟩ : SSea) r32).bind fun r33 => (bif (!r33) then some (false) else (laws_markSea n (⟨x027, x028, t29, t30⟩ : SSea) (1 : Int)).bind fun r104 => (bif (decide (r104.1 < (0 : Int))) then some (false) else (laws_eqIntS n t31 t26).bind fun r108 => (bif (!r108) then some (false) else laws_FnExactWayOf_k1 n  aFrom1 aTo2 w124 (!(g125 == w124)) aS0 t26 t31)))
def laws_FnExactWayOf_k3 (n : Nat)  (aFrom1 : Int) (aTo2 : Int) (aS0 : SSea) : Option Bool :=
  (laws_toSea n aS0).bind fun r2 => (spec_WayOf n r2 aFrom1 aTo2).bind fun r3 => (laws_toSea n aS0).bind fun r4 => (impl_WayOf n r4 aFrom1 aTo2).bind fun r5 => (laws_eqIntS n r5.1 r3.1).bind fun r6 => (bif (!r6) then some (false) else (bif (!(r5.2 == r3.2)) then some (false) else laws_FnExactWayOf_k2 n  aFrom1 aTo2 r3.2 r5.2 aS0 r3.1 r4.Wide r4.High r4.Costs r4.Shut r5.1))
def laws_FnExactWayOf (n : Nat) (aS0 : SSea) (aFrom1 : Int) (aTo2 : Int) : Option Bool :=
  (laws_szSea n aS0 (1048576 : Int)).bind fun r1 => (bif (decide (r1 < (0 : Int))) then some (true) else laws_FnExactWayOf_k3 n  aFrom1 aTo2 aS0)
def rng (a b x : Int) : Prop := a ≤ x ∧ x ≤ b
def wfSClosed (x : SClosed) : Prop := rng (-9223372036854775808) 9223372036854775807 x.X0 ∧ rng (-9223372036854775808) 9223372036854775807 x.Y0 ∧ rng (-9223372036854775808) 9223372036854775807 x.X1 ∧ rng (-9223372036854775808) 9223372036854775807 x.Y1 ∧ rng (-9223372036854775808) 9223372036854775807 x.From ∧ rng (-9223372036854775808) 9223372036854775807 x.To
def wfSSea (x : SSea) : Prop := rng (-9223372036854775808) 9223372036854775807 x.Wide ∧ rng (-9223372036854775808) 9223372036854775807 x.High ∧ (x.Costs.length ≤ 9223372036854775807 ∧ ∀ y ∈ x.Costs, rng (-9223372036854775808) 9223372036854775807 y) ∧ (x.Shut.length ≤ 9223372036854775807 ∧ ∀ y ∈ x.Shut, wfSClosed y)
end Go.Sm
end

section
set_option linter.unusedSimpArgs false
set_option linter.deprecated false
set_option linter.unusedSectionVars false
set_option linter.unusedVariables false
namespace Go.Sm
/-! ### Of the words that printed functions are made of -/
theorem w64_id {x : Int} (h1 : -9223372036854775808 ≤ x) (h2 : x ≤ 9223372036854775807) : w64 x = x := by
  show (let m := x % (2 ^ 64 : Int); if (true && decide ((2 : Int) ^ 63 ≤ m)) = true then m - 2 ^ 64 else m) = x
  simp only [Bool.true_and, decide_eq_true_eq]
  split <;> omega
theorem w64_rng (x : Int) : -9223372036854775808 ≤ w64 x ∧ w64 x ≤ 9223372036854775807 := by
  show -9223372036854775808 ≤ (let m := x % (2 ^ 64 : Int); if (true && decide ((2 : Int) ^ 63 ≤ m)) = true then m - 2 ^ 64 else m) ∧ (let m := x % (2 ^ 64 : Int); if (true && decide ((2 : Int) ^ 63 ≤ m)) = true then m - 2 ^ 64 else m) ≤ 9223372036854775807
  simp only [Bool.true_and, decide_eq_true_eq]
  split <;> omega
theorem chk_of {R : Type} {b : Bool} {x : Option R} (h : b = true) : chk b x = x := by rw [h]; rfl
theorem chk_true {R : Type} {x : Option R} : chk true x = x := rfl
theorem chk_dec {R : Type} {p : Prop} [Decidable p] {x : Option R} (h : p) : chk (decide p) x = x := chk_of (decide_eq_true h)
theorem ix_of {R : Type} {i : Int} {len : Nat} {x : Option R} (h0 : 0 ≤ i) (h1 : i < (len : Int)) : ix i len x = x := by
  unfold ix
  rw [decide_eq_true h0, decide_eq_true h1]
  rfl
theorem ix_nat {R : Type} {i len : Nat} {x : Option R} (h1 : i < len) : ix (i : Int) len x = x := ix_of (by omega) (by omega)
theorem bif_dec {α : Type} {p : Prop} [Decidable p] {x y : α} : (bif decide p then x else y) = if p then x else y := by
  by_cases h : p <;> simp [h]
theorem bif_not {α : Type} {b : Bool} {x y : α} : (bif !b then x else y) = bif b then y else x := by cases b <;> rfl
theorem bif_and {α : Type} {a b : Bool} {x y : α} : (bif a && b then x else y) = bif a then (bif b then x else y) else y := by cases a <;> rfl
theorem loopN_succ {X R : Type} (b : X → (X → Option R) → Option R) (m : Nat) (x : X) : loopN b (m + 1) x = b x (loopN b m) := rfl
/-- What holds of a loop: by what is left to go. -/
theorem loopN_ind {X R : Type} {b : X → (X → Option R) → Option R} (μ : X → Nat) (I : X → Prop) (Q : X → Option R → Prop)
    (h : ∀ x J, I x → (∀ y, I y → μ y < μ x → Q y (J y)) → Q x (b x J)) : ∀ n x, I x → μ x < n → Q x (loopN b n x)
  | 0, x, hi, hm => absurd hm (Nat.not_lt_zero _)
  | n + 1, x, hi, hm => h x (loopN b n) hi fun y hy hl => loopN_ind μ I Q h n y hy (by omega)
theorem getD_eq {α : Type} {l : List α} {i : Nat} {d : α} (h : i < l.length) : l.getD i d = l[i] := by
  simp [List.getD, h]
theorem w64_succ {k : Nat} (h : k < 9223372036854775807) : w64 ((k : Int) + 1) = ((k + 1 : Nat) : Int) := by
  rw [w64_id (by omega) (by omega)]
  rfl
theorem take_succ_getD {α : Type} {l : List α} {i : Nat} {d : α} (h : i < l.length) : l.take (i + 1) = l.take i ++ [l.getD i d] := by
  rw [List.take_succ, getD_eq h, List.getElem?_eq_getElem h]
  rfl
theorem drop_getD {α : Type} {l : List α} {i : Nat} {d : α} (h : i < l.length) : l.drop i = l.getD i d :: l.drop (i + 1) := by
  rw [getD_eq h]
  exact List.drop_eq_getElem_cons h
theorem bd_eq {α β : Type} (e : α) (f : α → β) : bd e f = f e := rfl
theorem bd_set {α β : Type} {Q : β → Prop} {F : List α → β} {p : List α} {i : Nat} {x : α} (h : ∀ l : List α, l.length = p.length → Q (F l)) : Q (bd (p.set i x) F) := h _ (by simp)
theorem bd_is {α β : Type} {Q : β → Prop} {F : α → β} {e : α} (h : ∀ v : α, v = e → Q (F v)) : Q (bd e F) := h _ rfl
theorem bd_val {α β : Type} {Q : β → Prop} {F : α → β} {e : α} (h : ∀ v : α, Q (F v)) : Q (bd e F) := h _
theorem chk_q {R : Type} {Q : Option R → Prop} {b : Bool} {x : Option R} (h : b = true) (hx : Q x) : Q (chk b x) := by rw [chk_of h]; exact hx
theorem ix_q {R : Type} {Q : Option R → Prop} {i : Int} {len : Nat} {x : Option R} (h0 : 0 ≤ i) (h1 : i < (len : Int)) (hx : Q x) : Q (ix i len x) := by rw [ix_of h0 h1]; exact hx
theorem bd_upd {α β : Type} {Q : β → Prop} {F : List α → β} {p : List α} {i : Nat} {x d : α} (hi : i < p.length) (h : ∀ l : List α, l.length = p.length → l.getD i d = x → (∀ j, j ≠ i → l.getD j d = p.getD j d) → Q (F l)) : Q (bd (p.set i x) F) :=
  h _ (by simp) (by simp [List.getD, hi]) (fun j hj => by simp [List.getD, List.getElem?_set, Ne.symm hj])
/-- A list written from the front. -/
theorem set_take {α : Type} {a : List α} {d : α} {m k : Nat} (h : k < a.length) (hm : m = a.length := by rfl) : (a.take k ++ (List.replicate m d).drop k).set k (a.getD k d) = a.take (k + 1) ++ (List.replicate m d).drop (k + 1) := by
  subst hm
  have h1 : (a.take k).length = k := by simp; omega
  rw [List.set_append_right _ _ (by omega), h1, Nat.sub_self, take_succ_getD h, List.append_assoc]
  congr 1
  rw [List.drop_eq_getElem_cons (by simp; exact h)]
  rfl
/-! ### Loops over 0 .. len, by what is left -/
/-- Steps k, k+1, .. told one after the other; J: what comes behind a step. -/
def forK {S R : Type} (step : Nat → S → (S → Option R) → Option R) (fin : S → Option R) : Nat → Nat → S → Option R
  | 0, _, s => fin s
  | m + 1, k, s => step k s fun s' => forK step fin m (k + 1) s'
theorem loop_forK {X S R : Type} {b : X → (X → Option R) → Option R} {enc : Nat → S → X} {len : Nat} {step : Nat → S → (S → Option R) → Option R} {fin : S → Option R} (I : Nat → S → Prop)
    (hstep : ∀ k s J J', k < len → I k s → (∀ s', I (k + 1) s' → J (enc (k + 1) s') = J' s') → b (enc k s) J = step k s J') (hfin : ∀ s J, I len s → b (enc len s) J = fin s) :
    ∀ m k s n, k + m = len → m < n → I k s → loopN b n (enc k s) = forK step fin m k s
  | 0, k, s, 0, _, h, _ => absurd h (Nat.lt_irrefl _)
  | 0, k, s, n + 1, hk, _, hi => by
    have hk : k = len := by omega
    subst hk
    exact hfin s _ hi
  | m + 1, k, s, 0, _, h, _ => absurd h (Nat.not_lt_zero _)
  | m + 1, k, s, n + 1, hk, hn, hi => by
    show b (enc k s) (loopN b n) = step k s fun s' => forK step fin m (k + 1) s'
    exact hstep k s _ _ (by omega) hi fun s' hi' => loop_forK I hstep hfin m (k + 1) s' n (by omega) (by omega) hi'
/-- The first k at which f answers; at none: z. -/
def scanK {R : Type} (f : Nat → Option (Option R)) (z : Option R) : Nat → Nat → Option R
  | 0, _ => z
  | m + 1, k => match f k with
    | some r => r
    | none => scanK f z m (k + 1)
theorem loop_scan {X R : Type} {b : X → (X → Option R) → Option R} {enc : Nat → X} {len : Nat} {f : Nat → Option (Option R)} {z : Option R}
    (hstep : ∀ k J, k < len → b (enc k) J = match f k with | some r => r | none => J (enc (k + 1))) (hfin : ∀ J, b (enc len) J = z) :
    ∀ m k n, k + m = len → m < n → loopN b n (enc k) = scanK f z m k
  | 0, k, 0, _, h => absurd h (Nat.lt_irrefl _)
  | 0, k, n + 1, hk, _ => by
    have hk : k = len := by omega
    subst hk
    exact hfin _
  | m + 1, k, 0, _, h => absurd h (Nat.not_lt_zero _)
  | m + 1, k, n + 1, hk, hn => by
    show b (enc k) (loopN b n) = _
    rw [hstep k _ (by omega)]
    unfold scanK
    cases f k with
    | some r => rfl
    | none => exact loop_scan hstep hfin m (k + 1) n (by omega) (by omega)
/-- Is p so of all of k, .. k + m - 1? -/
theorem scan_all {R : Type} {p : Nat → Bool} {r z : Option R} : ∀ m k, scanK (fun k => bif p k then none else some r) z m k = bif (List.range' k m).all p then z else r
  | 0, k => rfl
  | m + 1, k => by
    rw [scanK, List.range'_succ, List.all_cons]
    cases h : p k with
    | true => simp only [cond_true, Bool.true_and]; exact scan_all m (k + 1)
    | false => rfl
theorem scan_any {R : Type} {p : Nat → Bool} {r z : Option R} : ∀ m k, scanK (fun k => bif p k then some r else none) z m k = bif (List.range' k m).any p then r else z
  | 0, k => rfl
  | m + 1, k => by
    rw [scanK, List.range'_succ, List.any_cons]
    cases h : p k with
    | false => simp only [cond_false, Bool.false_or]; exact scan_any m (k + 1)
    | true => rfl
theorem mgetI_mputI {β : Type} (l : List (Int × β)) (n m : Int) (v : β) : mgetI (mputI l n v) m = if m = n then some v else mgetI l m := by
  unfold mgetI mputI
  induction l with
  | nil =>
    by_cases h : m = n <;> simp [h]
  | cons a l ih =>
    rw [List.findIdx?_cons]
    by_cases h : n = a.1
    · simp only [h, decide_true, if_true, Option.elim_some, List.set_cons_zero, List.find?_cons]
      by_cases h2 : m = a.1
      · simp [h2]
      · simp [h2]
    · simp only [h, decide_false, Bool.false_eq_true, if_false]
      cases hf : l.findIdx? (fun e => decide (n = e.1)) with
      | none =>
        rw [hf] at ih
        simp only [Option.elim_none] at ih
        simp only [Option.map_none, Option.elim_none, List.cons_append, List.find?_cons]
        by_cases h2 : m = a.1
        · have : m ≠ n := fun e => h (e ▸ h2)
          simp [h2]
          simp [h2] at this
          simp [this]
        · simp only [h2, decide_false]
          exact ih
      | some i =>
        rw [hf] at ih
        simp only [Option.elim_some] at ih
        simp only [Option.map_some, Option.elim_some, List.set_cons_succ, List.find?_cons]
        by_cases h2 : m = a.1
        · have : m ≠ n := fun e => h (e ▸ h2)
          simp [h2]
          simp [h2] at this
          simp [this]
        · simp only [h2, decide_false]
          exact ih
theorem mgetI_nil {β : Type} (m : Int) : mgetI ([] : List (Int × β)) m = none := rfl
/-! ### Chains of tests -/
theorem bif_and' {α : Type} {a b : Bool} {x y : α} : (bif a then (bif b then x else y) else y) = bif a && b then x else y := by cases a <;> rfl
theorem bif_or' {α : Type} {a b : Bool} {x y : α} : (bif a then y else (bif b then x else y)) = bif !a && b then x else y := by cases a <;> rfl
theorem bif_and2 {α : Type} {a b : Bool} {x y : α} : (bif a then (bif b then y else x) else y) = bif a && !b then x else y := by cases a <;> cases b <;> rfl
theorem bif_or2 {α : Type} {a b : Bool} {x y : α} : (bif a then y else (bif b then y else x)) = bif !a && !b then x else y := by cases a <;> cases b <;> rfl
theorem bif_some {α β : Type} {a : Bool} {x y : α} {f : α → Option β} : (bif a then some x else some y).bind f = bif a then f x else f y := by cases a <;> rfl
theorem bif_tf {a : Bool} : (bif a then some true else some false) = some a := by cases a <;> rfl
theorem bif_ft {a : Bool} : (bif a then some false else some true) = some (!a) := by cases a <;> rfl
theorem bif_sf {a b : Bool} : (bif a then some b else some false) = some (a && b) := by cases a <;> rfl
theorem all_range_succ {p : Nat → Bool} {k : Nat} : (List.range (k + 1)).all p = ((List.range k).all p && p k) := by
  rw [List.range_succ, List.all_append]
  simp
theorem any_range_succ {p : Nat → Bool} {k : Nat} : (List.range (k + 1)).any p = ((List.range k).any p || p k) := by
  rw [List.range_succ, List.any_append]
  simp
theorem all_range_not {p : Nat → Bool} {k m : Nat} (hk : k < m) (h : p k = false) : (List.range m).all p = false := by
  rw [Bool.eq_false_iff]
  intro e
  rw [List.all_eq_true] at e
  rw [e k (List.mem_range.2 hk)] at h
  cases h
theorem any_range_of {p : Nat → Bool} {k m : Nat} (hk : k < m) (h : p k = true) : (List.range m).any p = true := by
  rw [List.any_eq_true]
  exact ⟨k, List.mem_range.2 hk, h⟩
/-- A loop that looks at k = 0, 1, .. and leaves at the first that is not so. -/
theorem loop_all {R : Type} {b : Int → (Int → Option R) → Option R} {len : Nat} {p : Nat → Bool} {no yes : Option R} (hlen : len ≤ 9223372036854775807)
    (hstep : ∀ (k : Nat) (J : Int → Option R), k < len → (∀ j, j < k → p j = true) → b (k : Int) J = bif p k then J ((k + 1 : Nat) : Int) else no) (hfin : ∀ J, (∀ j, j < len → p j = true) → b (len : Int) J = yes) {n : Nat} (hn : len < n) :
    loopN b n (0 : Int) = bif (List.range len).all p then yes else no := by
  refine loopN_ind (fun x => len - x.toNat) (fun x => ∃ k : Nat, k ≤ len ∧ x = (k : Int) ∧ (List.range k).all p = true) (fun x r => r = bif (List.range len).all p then yes else no) ?_ n _ ⟨0, by omega, rfl, rfl⟩ (by simp; omega)
  rintro _ J ⟨k, hk, rfl, hb⟩ ih
  have hb' : ∀ j, j < k → p j = true := fun j hj => List.all_eq_true.1 hb j (List.mem_range.2 hj)
  by_cases h : k < len
  · rw [hstep k J h hb']
    cases hp : p k with
    | true => exact ih _ ⟨k + 1, h, rfl, by rw [all_range_succ, hb, hp]; rfl⟩ (by simp; omega)
    | false => rw [all_range_not h hp]; rfl
  · have : k = len := by omega
    subst this
    rw [hfin _ hb', hb]
    rfl
/-- The same, a state turned on the way (its invariant: I). -/
theorem loop_allS {S R : Type} {X : Type} {enc : Int → S → X} {b : X → (X → Option R) → Option R} {len : Nat} {p : Nat → Bool} {I : Nat → S → Prop} {no yes : Option R}
    (hstep : ∀ (k : Nat) (s : S) (J : X → Option R), k < len → I k s → (∀ j, j < k → p j = true) → ∃ s', (p k = true → I (k + 1) s') ∧ b (enc (k : Int) s) J = bif p k then J (enc ((k + 1 : Nat) : Int) s') else no) (hfin : ∀ s J, I len s → (∀ j, j < len → p j = true) → b (enc (len : Int) s) J = yes) {n : Nat} (hn : len < n) {s0 : S} (h0 : I 0 s0) :
    loopN b n (enc (0 : Int) s0) = bif (List.range len).all p then yes else no := by
  have key : ∀ m (k : Nat) (s : S) n, k + m = len → m < n → I k s → (List.range k).all p = true → loopN b n (enc (k : Int) s) = bif (List.range len).all p then yes else no := by
    intro m
    induction m with
    | zero =>
      intro k s n hk hn hi hb
      have hb' : ∀ j, j < k → p j = true := fun j hj => List.all_eq_true.1 hb j (List.mem_range.2 hj)
      have hk : k = len := by omega
      subst hk
      cases n with
      | zero => omega
      | succ n => rw [loopN_succ, hfin s _ hi hb', hb]; rfl
    | succ m ih =>
      intro k s n hk hn hi hb
      have hb' : ∀ j, j < k → p j = true := fun j hj => List.all_eq_true.1 hb j (List.mem_range.2 hj)
      cases n with
      | zero => omega
      | succ n =>
        rw [loopN_succ]
        obtain ⟨s', h1, h2⟩ := hstep k s (loopN b n) (by omega) hi hb'
        rw [h2]
        cases hp : p k with
        | true => exact ih (k + 1) s' n (by omega) (by omega) (h1 hp) (by rw [all_range_succ, hb, hp]; rfl)
        | false => rw [all_range_not (by omega : k < len) hp]; rfl
  exact key len 0 s0 n (by omega) hn h0 rfl
/-- A loop over 0 .. len that never leaves early; its state: I. -/
theorem loop_runS {S R : Type} {X : Type} {enc : Int → S → X} {b : X → (X → Option R) → Option R} {len : Nat} {I : Nat → S → Prop} {Q : Option R → Prop}
    (hstep : ∀ (k : Nat) (s : S) (J : X → Option R), k < len → I k s → ∃ s', I (k + 1) s' ∧ b (enc (k : Int) s) J = J (enc ((k + 1 : Nat) : Int) s')) (hfin : ∀ s J, I len s → Q (b (enc (len : Int) s) J)) {n : Nat} (hn : len < n) {s0 : S} (h0 : I 0 s0) :
    Q (loopN b n (enc (0 : Int) s0)) := by
  have key : ∀ m (k : Nat) (s : S) n, k + m = len → m < n → I k s → Q (loopN b n (enc (k : Int) s)) := by
    intro m
    induction m with
    | zero =>
      intro k s n hk hn hi
      have hk : k = len := by omega
      subst hk
      cases n with
      | zero => omega
      | succ n => rw [loopN_succ]; exact hfin s _ hi
    | succ m ih =>
      intro k s n hk hn hi
      cases n with
      | zero => omega
      | succ n =>
        rw [loopN_succ]
        obtain ⟨s', h1, h2⟩ := hstep k s (loopN b n) (by omega) hi
        rw [h2]
        exact ih (k + 1) s' n (by omega) (by omega) h1
  exact key len 0 s0 n (by omega) hn h0
/-! ### Sums over lists -/
def sumOf {α : Type} (f : α → Nat) : List α → Nat
  | [] => 0
  | a :: l => f a + sumOf f l
theorem sumOf_append {α : Type} (f : α → Nat) : ∀ a b : List α, sumOf f (a ++ b) = sumOf f a + sumOf f b
  | [], b => by simp [sumOf]
  | x :: a, b => by simp only [List.cons_append, sumOf, sumOf_append f a b]; omega
theorem sumOf_take_succ {α : Type} {f : α → Nat} {l : List α} {k : Nat} {d : α} (h : k < l.length) : sumOf f (l.take (k + 1)) = sumOf f (l.take k) + f (l.getD k d) := by
  rw [take_succ_getD (d := d) h, sumOf_append]
  simp [sumOf]
theorem sumOf_take_le {α : Type} (f : α → Nat) (l : List α) (k : Nat) : sumOf f (l.take k) ≤ sumOf f l := by
  have := sumOf_append f (l.take k) (l.drop k)
  rw [List.take_append_drop] at this
  omega
theorem sumOf_mem {α : Type} {f : α → Nat} {l : List α} {k : Nat} {d : α} (h : k < l.length) : f (l.getD k d) ≤ sumOf f l := by
  have h1 := sumOf_take_succ (f := f) (d := d) h
  have h2 := sumOf_take_le f l (k + 1)
  omega
theorem sumOf_lin {α : Type} {f g : α → Nat} {c s : Nat} (h : ∀ y, f y ≤ c * g y + s) : ∀ l : List α, sumOf f l ≤ c * sumOf g l + s * l.length
  | [] => by simp [sumOf]
  | a :: l => by
    have h1 := h a
    have h2 := sumOf_lin h l
    simp only [sumOf, List.length_cons, Nat.mul_add, Nat.mul_succ]
    omega
theorem sumOf_const {α : Type} (c : Nat) : ∀ l : List α, sumOf (fun _ => c) l = c * l.length
  | [] => by simp [sumOf]
  | a :: l => by simp only [sumOf, sumOf_const c l, List.length_cons, Nat.mul_succ]; omega
theorem getD_set {α : Type} {l : List α} {k : Nat} {x d : α} (h : k < l.length) : (l.set k x).getD k d = x := by simp [List.getD, h]
theorem getD_set_ne {α : Type} {l : List α} {k j : Nat} {x d : α} (h : j ≠ k) : (l.set k x).getD j d = l.getD j d := by simp [List.getD, List.getElem?_set, Ne.symm h]
theorem getD_mem {α : Type} {l : List α} {k : Nat} {d : α} (h : k < l.length) : l.getD k d ∈ l := by rw [getD_eq h]; exact List.getElem_mem h
theorem take_drop_set {α : Type} {a : List α} {d : α} {m k : Nat} {x : α} (h : k < a.length) (hm : m = a.length) (hx : x = a.getD k d) : (a.take k ++ (List.replicate m d).drop k).set k x = a.take (k + 1) ++ (List.replicate m d).drop (k + 1) := by
  subst hx
  exact set_take h hm
/-! ### The first that is so -/
def idxOf (p : Nat → Bool) (m : Nat) : Int := match (List.range m).find? p with
  | some k => (k : Int)
  | none => -1
theorem find_range_none {p : Nat → Bool} {m : Nat} (h : ∀ j, j < m → p j = false) : (List.range m).find? p = none := by
  rw [List.find?_eq_none]
  intro x hx
  rw [h x (List.mem_range.1 hx)]
  simp
theorem find_range_some {p : Nat → Bool} {m k : Nat} (hk : k < m) (hp : p k = true) (h : ∀ j, j < k → p j = false) : (List.range m).find? p = some k := by
  have e : m = k + (m - k) := by omega
  rw [e, List.range_add, List.find?_append, find_range_none h, Option.none_or]
  obtain ⟨r, hr⟩ : ∃ r, m - k = r + 1 := ⟨m - k - 1, by omega⟩
  rw [hr, List.range_succ_eq_map]
  simp [hp]
theorem idxOf_ge (p : Nat → Bool) (m : Nat) : decide (idxOf p m ≥ 0) = (List.range m).any p := by
  unfold idxOf
  cases h : (List.range m).find? p with
  | none =>
    rw [List.find?_eq_none] at h
    rw [show (List.range m).any p = false from by rw [List.any_eq_false]; exact h]
    rfl
  | some k =>
    have h1 := List.find?_some h
    rw [show (List.range m).any p = true from List.any_eq_true.2 ⟨k, List.mem_of_find?_eq_some h, h1⟩]
    exact decide_eq_true (by show (0 : Int) ≤ (k : Int); omega)
theorem idxOf_lt (p : Nat → Bool) (m : Nat) : decide (idxOf p m < 0) = !(List.range m).any p := by
  rw [← idxOf_ge]
  by_cases h : idxOf p m < 0
  · rw [decide_eq_true h, decide_eq_false (by omega)]; rfl
  · rw [decide_eq_false h, decide_eq_true (by omega)]; rfl
theorem find_range (p : Nat → Bool) : ∀ m, ((List.range m).find? p = none ∧ ∀ j, j < m → p j = false) ∨ ∃ k, (List.range m).find? p = some k ∧ k < m ∧ p k = true ∧ ∀ j, j < k → p j = false
  | 0 => .inl ⟨rfl, fun j hj => absurd hj (Nat.not_lt_zero _)⟩
  | m + 1 => by
    rcases find_range p m with ⟨h1, h2⟩ | ⟨k, h1, h2, h3, h4⟩
    · cases hp : p m with
      | true => exact .inr ⟨m, find_range_some (by omega) hp h2, by omega, hp, h2⟩
      | false =>
        have : ∀ j, j < m + 1 → p j = false := fun j hj => by
          by_cases e : j = m
          · rw [e]; exact hp
          · exact h2 j (by omega)
        exact .inl ⟨find_range_none this, this⟩
    · exact .inr ⟨k, find_range_some (by omega) h3 h4, by omega, h3, h4⟩
theorem idxOf_spec (p : Nat → Bool) (m : Nat) : (idxOf p m = -1 ∧ ∀ j, j < m → p j = false) ∨ ∃ k : Nat, idxOf p m = (k : Int) ∧ k < m ∧ p k = true ∧ ∀ j, j < k → p j = false := by
  unfold idxOf
  rcases find_range p m with ⟨h1, h2⟩ | ⟨k, h1, h2, h3, h4⟩
  · rw [h1]; exact .inl ⟨rfl, h2⟩
  · rw [h1]; exact .inr ⟨k, rfl, h2, h3, h4⟩
/-- A loop that looks at k = 0, 1, .. and leaves at the first that is so. -/
theorem loop_find {R : Type} {b : Int → (Int → Option R) → Option R} {len : Nat} {p : Nat → Bool} {yes : Nat → Option R} {no : Option R} (hlen : len ≤ 9223372036854775807)
    (hstep : ∀ (k : Nat) (J : Int → Option R), k < len → (∀ j, j < k → p j = false) → b (k : Int) J = bif p k then yes k else J ((k + 1 : Nat) : Int)) (hfin : ∀ J, (∀ j, j < len → p j = false) → b (len : Int) J = no) {n : Nat} (hn : len < n) :
    loopN b n (0 : Int) = match (List.range len).find? p with | some k => yes k | none => no := by
  refine loopN_ind (fun x => len - x.toNat) (fun x => ∃ k : Nat, k ≤ len ∧ x = (k : Int) ∧ ∀ j, j < k → p j = false) (fun x r => r = match (List.range len).find? p with | some k => yes k | none => no) ?_ n _ ⟨0, by omega, rfl, fun j hj => absurd hj (Nat.not_lt_zero _)⟩ (by simp; omega)
  rintro _ J ⟨k, hk, rfl, hb⟩ ih
  by_cases h : k < len
  · rw [hstep k J h hb]
    cases hp : p k with
    | false => exact ih _ ⟨k + 1, h, rfl, fun j hj => by
        by_cases e : j = k
        · rw [e]; exact hp
        · exact hb j (by omega)⟩ (by simp; omega)
    | true => rw [find_range_some h hp hb]; rfl
  · have : k = len := by omega
    subst this
    rw [hfin _ hb, find_range_none hb]
theorem loop_idx {b : Int → (Int → Option Int) → Option Int} {len : Nat} {p : Nat → Bool} (hlen : len ≤ 9223372036854775807)
    (hstep : ∀ (k : Nat) (J : Int → Option Int), k < len → (∀ j, j < k → p j = false) → b (k : Int) J = bif p k then some (k : Int) else J ((k + 1 : Nat) : Int)) (hfin : ∀ J, (∀ j, j < len → p j = false) → b (len : Int) J = some (-1)) {n : Nat} (hn : len < n) :
    loopN b n (0 : Int) = some (idxOf p len) := by
  rw [loop_find (yes := fun k => some (k : Int)) (no := some (-1)) hlen hstep hfin hn]
  unfold idxOf
  cases (List.range len).find? p <;> rfl
theorem byteAt_rng (s : ByteArray) (k : Nat) : 0 ≤ byteAt s k ∧ byteAt s k ≤ 255 := by
  unfold byteAt
  have := (s.data.getD k 0).toNat_lt
  omega
theorem range_any {α : Type} {l : List α} {d : α} {f : α → Bool} : (List.range l.length).any (fun k => f (l.getD k d)) = l.any f := by
  induction l with
  | nil => rfl
  | cons a l ih =>
    rw [List.length_cons, List.range_succ_eq_map, List.any_cons, List.any_map, List.any_cons, ← ih]
    rfl
theorem range_all {α : Type} {l : List α} {d : α} {f : α → Bool} : (List.range l.length).all (fun k => f (l.getD k d)) = l.all f := by
  induction l with
  | nil => rfl
  | cons a l ih =>
    rw [List.length_cons, List.range_succ_eq_map, List.all_cons, List.all_map, List.all_cons, ← ih]
    rfl
theorem all_congr_lt {p q : Nat → Bool} {m : Nat} (h : ∀ k, k < m → p k = q k) : (List.range m).all p = (List.range m).all q := by
  rw [Bool.eq_iff_iff, List.all_eq_true, List.all_eq_true]
  constructor
  · intro g x hx; rw [← h x (List.mem_range.1 hx)]; exact g x hx
  · intro g x hx; rw [h x (List.mem_range.1 hx)]; exact g x hx
theorem any_congr_lt {p q : Nat → Bool} {m : Nat} (h : ∀ k, k < m → p k = q k) : (List.range m).any p = (List.range m).any q := by
  rw [Bool.eq_iff_iff, List.any_eq_true, List.any_eq_true]
  constructor
  · rintro ⟨x, hx, g⟩; exact ⟨x, hx, by rw [← h x (List.mem_range.1 hx)]; exact g⟩
  · rintro ⟨x, hx, g⟩; exact ⟨x, hx, by rw [h x (List.mem_range.1 hx)]; exact g⟩
theorem guard_sz {w : Nat} {x : Option Bool} (h : w ≤ 1048576 → x = some true) : (bif decide ((if (w : Int) ≤ 1048576 then 1048576 - (w : Int) else -1) < 0) then some true else x) = some true := by
  by_cases c : (w : Int) ≤ 1048576
  · rw [if_pos c, decide_eq_false (by omega), cond_false]
    exact h (by omega)
  · rw [if_neg c]
    rfl
end Go.Sm
end

section
set_option linter.unusedSimpArgs false
set_option linter.deprecated false
set_option linter.unusedSectionVars false
set_option linter.unusedVariables false
set_option linter.unusedSimpArgs false
namespace Go.Sm
attribute [local irreducible] bd chk ix loopN
def w_LInt (a : List Int) : Nat := a.length
theorem laws_szIntS_ok {n : Nat} (a : List Int) {left : Int} (h : (a.length ≤ 9223372036854775807 ∧ ∀ y ∈ a, rng (-9223372036854775808) 9223372036854775807 y)) (h0 : 0 ≤ left) (h1 : left ≤ 1048576) (hn : 1000000000 < n) : laws_szIntS n a left = some (if (w_LInt a : Int) ≤ left then left - (w_LInt a : Int) else -1) := by
  have hw : w_LInt a = a.length := rfl
  unfold laws_szIntS
  rw [w64_id (by have := h.1; omega) (by omega), bd_eq, bif_dec]
  by_cases c : (a.length : Int) ≤ left
  · rw [if_neg (by omega), if_pos (by omega)]
    congr 1
  · rw [if_pos (by omega), if_neg (by omega)]
def w_LSClosed (a : List SClosed) : Nat := a.length
theorem laws_szClosedS_ok {n : Nat} (a : List SClosed) {left : Int} (h : (a.length ≤ 9223372036854775807 ∧ ∀ y ∈ a, wfSClosed y)) (h0 : 0 ≤ left) (h1 : left ≤ 1048576) (hn : 1000000000 < n) : laws_szClosedS n a left = some (if (w_LSClosed a : Int) ≤ left then left - (w_LSClosed a : Int) else -1) := by
  have hw : w_LSClosed a = a.length := rfl
  unfold laws_szClosedS
  rw [w64_id (by have := h.1; omega) (by omega), bd_eq, bif_dec]
  by_cases c : (a.length : Int) ≤ left
  · rw [if_neg (by omega), if_pos (by omega)]
    congr 1
  · rw [if_pos (by omega), if_neg (by omega)]
def w_SSea (a : SSea) : Nat := w_LInt a.Costs + w_LSClosed a.Shut
theorem laws_szSea_ok {n : Nat} (a : SSea) {left : Int} (h : wfSSea a) (h0 : 0 ≤ left) (h1 : left ≤ 1048576) (hn : 1000000000 < n) : laws_szSea n a left = some (if (w_SSea a : Int) ≤ left then left - (w_SSea a : Int) else -1) := by
  have hw : w_SSea a = w_LInt a.Costs + w_LSClosed a.Shut := rfl
  unfold laws_szSea
  rw [laws_szIntS_ok (n := n) a.Costs h.2.2.1 (by omega) (by omega) hn, Option.bind_some, bif_dec]
  by_cases c0 : (w_LInt a.Costs : Int) ≤ left
  case neg => rw [if_neg c0, if_pos (by omega), if_neg (by omega)]
  rw [if_pos c0, if_neg (by omega)]
  rw [laws_szClosedS_ok (n := n) a.Shut h.2.2.2 (by omega) (by omega) hn, Option.bind_some, bif_dec]
  by_cases c1 : (w_LSClosed a.Shut : Int) ≤ left - (w_LInt a.Costs : Int)
  case neg => rw [if_neg c1, if_pos (by omega), if_neg (by omega)]
  rw [if_pos c1, if_neg (by omega)]
  rw [if_pos (by omega)]
  try (refine congrArg some ?_; omega)
theorem laws_toIntS_ok {n : Nat} (a : List Int) (hb : w_LInt a ≤ 100000000) (hn : 1000000000 < n) : laws_toIntS n a = some a := by
  have hw0 : a.length ≤ 100000000 := by have hw : w_LInt a = a.length := rfl; omega
  unfold laws_toIntS
  rw [chk_dec (by omega), chk_dec (by omega), chk_dec (by omega)]
  refine loopN_ind (fun x => a.length - x.1.toNat) (fun x => ∃ k : Nat, k ≤ a.length ∧ x = ((k : Int), a.take k ++ (List.replicate a.length (0 : Int)).drop k)) (fun x r => r = some a) ?_ n _ ⟨0, by omega, by simp⟩ (by simp; omega)
  rintro _ J ⟨k, hk, rfl⟩ ih
  unfold laws_toIntS_L3
  dsimp only
  have hl : (a.take k ++ (List.replicate a.length (0 : Int)).drop k).length = a.length := by simp; omega
  by_cases h : k < a.length
  · have g := ih (((k + 1 : Nat) : Int), a.take (k + 1) ++ (List.replicate a.length (0 : Int)).drop (k + 1)) ⟨k + 1, h, rfl⟩ (by simp; omega)
    have hk2 : k < (a.take k ++ (List.replicate a.length (0 : Int)).drop k).length := by omega
    simp only [Int.ofNat_lt, h, hk2, decide_true, cond_true, ix_nat h, ix_nat hk2, chk_of, bd_eq, Option.bind_some, Int.toNat_natCast, w64_succ (show k < 9223372036854775807 by omega)]
    rw [take_drop_set (d := (0 : Int)) h rfl rfl]
    exact g
  · have : k = a.length := by omega
    subst this
    simp
theorem laws_toClosed_ok (n : Nat) (a : SClosed) : laws_toClosed n a = some a := by simp [laws_toClosed]
theorem laws_toClosedS_ok {n : Nat} (a : List SClosed) (hb : w_LSClosed a ≤ 100000000) (hn : 1000000000 < n) : laws_toClosedS n a = some a := by
  have hw0 : a.length ≤ 100000000 := by have hw : w_LSClosed a = a.length := rfl; omega
  unfold laws_toClosedS
  rw [chk_dec (by omega), chk_dec (by omega), chk_dec (by omega)]
  refine loopN_ind (fun x => a.length - x.1.toNat) (fun x => ∃ k : Nat, k ≤ a.length ∧ x = ((k : Int), a.take k ++ (List.replicate a.length dSClosed).drop k)) (fun x r => r = some a) ?_ n _ ⟨0, by omega, by simp⟩ (by simp; omega)
  rintro _ J ⟨k, hk, rfl⟩ ih
  unfold laws_toClosedS_L3
  dsimp only
  have hl : (a.take k ++ (List.replicate a.length dSClosed).drop k).length = a.length := by simp; omega
  by_cases h : k < a.length
  · have g := ih (((k + 1 : Nat) : Int), a.take (k + 1) ++ (List.replicate a.length dSClosed).drop (k + 1)) ⟨k + 1, h, rfl⟩ (by simp; omega)
    have hk2 : k < (a.take k ++ (List.replicate a.length dSClosed).drop k).length := by omega
    simp only [Int.ofNat_lt, h, hk2, decide_true, cond_true, ix_nat h, ix_nat hk2, chk_of, bd_eq, Option.bind_some, Int.toNat_natCast, w64_succ (show k < 9223372036854775807 by omega), laws_toClosed_ok]
    rw [take_drop_set (d := dSClosed) h rfl rfl]
    exact g
  · have : k = a.length := by omega
    subst this
    simp
theorem laws_toSea_ok {n : Nat} (a : SSea) (h : w_SSea a ≤ 100000000) (hn : 1000000000 < n) : laws_toSea n a = some a := by
  have hw : w_SSea a = w_LInt a.Costs + w_LSClosed a.Shut := rfl
  simp [laws_toSea, laws_toIntS_ok (n := n) a.Costs (by omega) hn, laws_toClosedS_ok (n := n) a.Shut (by omega) hn]
theorem laws_eqIntS_ok {n : Nat} (a : List Int) (hb : w_LInt a ≤ 100000000) (hn : 1000000000 < n) : laws_eqIntS n a a = some true := by
  have hw0 : a.length ≤ 100000000 := by have hw : w_LInt a = a.length := rfl; omega
  unfold laws_eqIntS
  simp only [decide_true, Bool.not_true, cond_false]
  refine loopN_ind (fun x => a.length - x.toNat) (fun x => ∃ k : Nat, k ≤ a.length ∧ x = (k : Int)) (fun x r => r = some true) ?_ n _ ⟨0, by omega, rfl⟩ (by simp; omega)
  rintro _ J ⟨k, hk, rfl⟩ ih
  unfold laws_eqIntS_L4
  by_cases h : k < a.length
  · have g := ih ((k + 1 : Nat) : Int) ⟨k + 1, h, rfl⟩ (by simp; omega)
    simp only [Int.ofNat_lt, h, decide_true, cond_true, ix_nat h, Bool.not_true, cond_false, bd_eq, Option.bind_some, beq_self_eq_true, Int.toNat_natCast, w64_succ (show k < 9223372036854775807 by omega)]
    exact g
  · simp [h]
theorem laws_eqClosed_ok (n : Nat) (a : SClosed) : laws_eqClosed n a a = some true := by simp [laws_eqClosed, laws_eqClosed_k0]
theorem laws_eqClosedS_ok {n : Nat} (a : List SClosed) (hb : w_LSClosed a ≤ 100000000) (hn : 1000000000 < n) : laws_eqClosedS n a a = some true := by
  have hw0 : a.length ≤ 100000000 := by have hw : w_LSClosed a = a.length := rfl; omega
  unfold laws_eqClosedS
  simp only [decide_true, Bool.not_true, cond_false]
  refine loopN_ind (fun x => a.length - x.toNat) (fun x => ∃ k : Nat, k ≤ a.length ∧ x = (k : Int)) (fun x r => r = some true) ?_ n _ ⟨0, by omega, rfl⟩ (by simp; omega)
  rintro _ J ⟨k, hk, rfl⟩ ih
  unfold laws_eqClosedS_L4
  by_cases h : k < a.length
  · have g := ih ((k + 1 : Nat) : Int) ⟨k + 1, h, rfl⟩ (by simp; omega)
    simp only [Int.ofNat_lt, h, decide_true, cond_true, ix_nat h, Bool.not_true, cond_false, bd_eq, Option.bind_some, beq_self_eq_true, Int.toNat_natCast, w64_succ (show k < 9223372036854775807 by omega), laws_eqClosed_ok]
    exact g
  · simp [h]
theorem laws_eqSea_ok {n : Nat} (a : SSea) (h : w_SSea a ≤ 100000000) (hn : 1000000000 < n) : laws_eqSea n a a = some true := by
  have hw : w_SSea a = w_LInt a.Costs + w_LSClosed a.Shut := rfl
  simp [laws_eqSea, laws_eqIntS_ok (n := n) a.Costs (by omega) hn, laws_eqClosedS_ok (n := n) a.Shut (by omega) hn]
def Mk_LInt (n : Nat) (k : Int) (a x : Int) : Prop := x = k
def n_LInt (a : List Int) : Nat := sumOf (fun y => 1) a
theorem n_LInt_eq (a : List Int) : n_LInt a = 1 * a.length := sumOf_const 1 a
theorem n_LInt_le (a : List Int) : n_LInt a ≤ 1 * w_LInt a := by
  have h := n_LInt_eq a
  have h2 : w_LInt a = a.length := rfl
  omega
theorem laws_markIntS_i {n : Nat} (a : List Int) (k0 : Int) (hk0 : 0 ≤ k0) (hb : k0 + ((n_LInt a : Nat) : Int) ≤ 900000000) (hw : w_LInt a ≤ 100000000) (hn : 1000000000 < n) :
    ∃ p : List Int, laws_markIntS n a k0 = some (k0 + ((n_LInt a : Nat) : Int), p) ∧ p.length = a.length ∧ ∀ i, i < a.length → Mk_LInt n (k0 + ((sumOf (fun y => 1) (a.take i) : Nat) : Int)) (a.getD i (0 : Int)) (p.getD i (0 : Int)) := by
  have hw0 : a.length ≤ 100000000 := by have hw : w_LInt a = a.length := rfl; omega
  have hnA : n_LInt a = sumOf (fun y => 1) a := rfl
  unfold laws_markIntS
  refine loopN_ind (fun x => a.length - x.2.1.toNat) (fun x => ∃ (k : Nat) (p : List Int), k ≤ a.length ∧ x = (k0 + ((sumOf (fun y => 1) (a.take k) : Nat) : Int), (k : Int), p) ∧ p.length = a.length ∧
      (∀ i, i < k → Mk_LInt n (k0 + ((sumOf (fun y => 1) (a.take i) : Nat) : Int)) (a.getD i (0 : Int)) (p.getD i (0 : Int))) ∧ ∀ i, k ≤ i → p.getD i (0 : Int) = a.getD i (0 : Int))
    (fun x r => ∃ p : List Int, r = some (k0 + ((n_LInt a : Nat) : Int), p) ∧ p.length = a.length ∧ ∀ i, i < a.length → Mk_LInt n (k0 + ((sumOf (fun y => 1) (a.take i) : Nat) : Int)) (a.getD i (0 : Int)) (p.getD i (0 : Int))) ?_ n _ ⟨0, a, by omega, by simp [sumOf], rfl, by omega, fun _ _ => rfl⟩ (by simp; omega)
  rintro _ J ⟨k, p, hk, rfl, hp, hm, hrest⟩ ih
  by_cases h : k < a.length
  · have h' : k < p.length := by omega
    have s1 := sumOf_take_succ (f := fun y => 1) (d := (0 : Int)) h
    have s2 := sumOf_take_le (fun y => 1) a (k + 1)
    try simp only at s1
    obtain ⟨kk, hkk⟩ : ∃ kk : Int, kk = k0 + ((sumOf (fun y => 1) (a.take k) : Nat) : Int) := ⟨_, rfl⟩
    have hpk := hrest k (Nat.le_refl _)
    have step : ∀ (K : Int → List Int → Option (Int × List Int)) (J : Int → Int → List Int → Option (Int × List Int)), laws_markIntS_L2 n K J kk (k : Int) p = J (kk + 1) ((k : Int) + 1) (p.set k (kk)) := fun K J => by
      unfold laws_markIntS_L2
      simp (disch := omega) only [Int.ofNat_lt, h', decide_true, cond_true, ix_nat h', List.length_set, chk_of, chk_true, bd_eq, getD_set h', List.set_set, hpk, Int.toNat_natCast, w64_id, Int.add_assoc, Int.reduceAdd, Option.bind_some]
    dsimp only
    rw [← hkk]
    refine (congrArg (fun z => ∃ q : List Int, z = some (k0 + ((n_LInt a : Nat) : Int), q) ∧ q.length = a.length ∧ ∀ i, i < a.length → Mk_LInt n (k0 + ((sumOf (fun y => 1) (a.take i) : Nat) : Int)) (a.getD i (0 : Int)) (q.getD i (0 : Int))) (step _ _)).mpr ?_
    refine ih _ ⟨k + 1, _, h, Prod.ext (by dsimp only; omega) (Prod.ext (by dsimp only; omega) rfl), by simpa using hp, fun i hi => ?_, fun i hi => ?_⟩ (by dsimp only; omega)
    · by_cases e : i = k
      · subst e
        rw [getD_set h', ← hkk]
        unfold Mk_LInt
        exact rfl
      · rw [getD_set_ne e]
        exact hm i (by omega)
    · rw [getD_set_ne (by omega)]
      exact hrest i (by omega)
  · have : k = a.length := by omega
    subst this
    unfold laws_markIntS_L2
    simp only [hp, Int.lt_irrefl, decide_false, cond_false]
    rw [List.take_length]
    exact ⟨p, rfl, hp, hm⟩
theorem laws_heldIntS_i {n : Nat} (a p : List Int) (hp : p.length = a.length) (k0 : Int) (hk0 : 0 ≤ k0) (hb : k0 + ((n_LInt a : Nat) : Int) ≤ 900000000) (hw : w_LInt a ≤ 100000000) (hn : 1000000000 < n)
    (hm : ∀ i, i < a.length → Mk_LInt n (k0 + ((sumOf (fun y => 1) (a.take i) : Nat) : Int)) (a.getD i (0 : Int)) (p.getD i (0 : Int))) : laws_heldIntS n p k0 = some (k0 + ((n_LInt a : Nat) : Int)) := by
  have hw0 : a.length ≤ 100000000 := by have hw : w_LInt a = a.length := rfl; omega
  have hnA : n_LInt a = sumOf (fun y => 1) a := rfl
  unfold laws_heldIntS
  refine loopN_ind (fun x => a.length - x.2.toNat) (fun x => ∃ (k : Nat), k ≤ a.length ∧ x = (k0 + ((sumOf (fun y => 1) (a.take k) : Nat) : Int), (k : Int)))
    (fun x r => r = some (k0 + ((n_LInt a : Nat) : Int))) ?_ n _ ⟨0, by omega, by simp [sumOf]⟩ (by simp; omega)
  rintro _ J ⟨k, hk, rfl⟩ ih
  by_cases h : k < a.length
  · have h' : k < p.length := by omega
    have s1 := sumOf_take_succ (f := fun y => 1) (d := (0 : Int)) h
    have s2 := sumOf_take_le (fun y => 1) a (k + 1)
    try simp only at s1
    have hmk := hm k h
    unfold Mk_LInt at hmk
    obtain ⟨kk, hkk⟩ : ∃ kk : Int, kk = k0 + ((sumOf (fun y => 1) (a.take k) : Nat) : Int) := ⟨_, rfl⟩
    rw [← hkk] at hmk
    try simp (disch := omega) only [Int.add_assoc, Int.reduceAdd] at hmk
    have e0 := hmk
    have step : ∀ (K K2 : Int → Option Int) (J : Int → Int → Option Int), laws_heldIntS_L2 n K K2 J p kk (k : Int) = J (kk + 1) ((k : Int) + 1) := fun K K2 J => by
      unfold laws_heldIntS_L2
      simp (disch := omega) only [Int.ofNat_lt, h', decide_true, cond_true, ix_nat h', bd_eq, Int.toNat_natCast, w64_id, Int.add_assoc, Int.reduceAdd, Option.bind_some, Bool.not_true, cond_false, beq_self_eq_true, decide_eq_false_iff_not, Int.not_lt, bif_dec, if_neg, e0]
    dsimp only
    rw [← hkk]
    refine (step _ _ _).trans ?_
    exact ih (_, _) ⟨k + 1, h, Prod.ext (by dsimp only; omega) (by dsimp only; omega)⟩ (by dsimp only; omega)
  · have : k = a.length := by omega
    subst this
    unfold laws_heldIntS_L2
    simp only [hp, Int.lt_irrefl, decide_false, cond_false]
    rw [List.take_length]
    rfl
theorem laws_markIntS_ok {n : Nat} (a : List Int) (k0 : Int) (hk0 : 0 ≤ k0) (hb : k0 + ((n_LInt a : Nat) : Int) ≤ 900000000) (hw : w_LInt a ≤ 100000000) (hn : 1000000000 < n) : ∃ p : List Int, laws_markIntS n a k0 = some (k0 + ((n_LInt a : Nat) : Int), p) ∧ laws_heldIntS n p k0 = some (k0 + ((n_LInt a : Nat) : Int)) := by
  obtain ⟨p, h1, h2, h3⟩ := laws_markIntS_i (n := n) a k0 hk0 hb hw hn
  exact ⟨p, h1, laws_heldIntS_i a p h2 k0 hk0 hb hw hn h3⟩
def Mk_LSClosed (n : Nat) (k : Int) (a x : SClosed) : Prop := x.X0 = k ∧ x.Y0 = k + 1 ∧ x.X1 = k + 2 ∧ x.Y1 = k + 3 ∧ x.From = k + 4 ∧ x.To = k + 5
def n_LSClosed (a : List SClosed) : Nat := sumOf (fun y => 6) a
theorem n_LSClosed_eq (a : List SClosed) : n_LSClosed a = 6 * a.length := sumOf_const 6 a
theorem n_LSClosed_le (a : List SClosed) : n_LSClosed a ≤ 6 * w_LSClosed a := by
  have h := n_LSClosed_eq a
  have h2 : w_LSClosed a = a.length := rfl
  omega
theorem laws_markClosedS_i {n : Nat} (a : List SClosed) (k0 : Int) (hk0 : 0 ≤ k0) (hb : k0 + ((n_LSClosed a : Nat) : Int) ≤ 900000000) (hw : w_LSClosed a ≤ 100000000) (hn : 1000000000 < n) :
    ∃ p : List SClosed, laws_markClosedS n a k0 = some (k0 + ((n_LSClosed a : Nat) : Int), p) ∧ p.length = a.length ∧ ∀ i, i < a.length → Mk_LSClosed n (k0 + ((sumOf (fun y => 6) (a.take i) : Nat) : Int)) (a.getD i dSClosed) (p.getD i dSClosed) := by
  have hw0 : a.length ≤ 100000000 := by have hw : w_LSClosed a = a.length := rfl; omega
  have hnA : n_LSClosed a = sumOf (fun y => 6) a := rfl
  unfold laws_markClosedS
  refine loopN_ind (fun x => a.length - x.2.1.toNat) (fun x => ∃ (k : Nat) (p : List SClosed), k ≤ a.length ∧ x = (k0 + ((sumOf (fun y => 6) (a.take k) : Nat) : Int), (k : Int), p) ∧ p.length = a.length ∧
      (∀ i, i < k → Mk_LSClosed n (k0 + ((sumOf (fun y => 6) (a.take i) : Nat) : Int)) (a.getD i dSClosed) (p.getD i dSClosed)) ∧ ∀ i, k ≤ i → p.getD i dSClosed = a.getD i dSClosed)
    (fun x r => ∃ p : List SClosed, r = some (k0 + ((n_LSClosed a : Nat) : Int), p) ∧ p.length = a.length ∧ ∀ i, i < a.length → Mk_LSClosed n (k0 + ((sumOf (fun y => 6) (a.take i) : Nat) : Int)) (a.getD i dSClosed) (p.getD i dSClosed)) ?_ n _ ⟨0, a, by omega, by simp [sumOf], rfl, by omega, fun _ _ => rfl⟩ (by simp; omega)
  rintro _ J ⟨k, p, hk, rfl, hp, hm, hrest⟩ ih
  by_cases h : k < a.length
  · have h' : k < p.length := by omega
    have s1 := sumOf_take_succ (f := fun y => 6) (d := dSClosed) h
    have s2 := sumOf_take_le (fun y => 6) a (k + 1)
    try simp only at s1
    obtain ⟨kk, hkk⟩ : ∃ kk : Int, kk = k0 + ((sumOf (fun y => 6) (a.take k) : Nat) : Int) := ⟨_, rfl⟩
    have hpk := hrest k (Nat.le_refl _)
    have step : ∀ (K : Int → List SClosed → Option (Int × List SClosed)) (J : Int → Int → List SClosed → Option (Int × List SClosed)), laws_markClosedS_L2 n K J kk (k : Int) p = J (kk + 6) ((k : Int) + 1) (p.set k (⟨(kk), (kk + 1), (kk + 2), (kk + 3), (kk + 4), (kk + 5)⟩ : SClosed)) := fun K J => by
      unfold laws_markClosedS_L2
      simp (disch := omega) only [laws_markClosedS_k0, Int.ofNat_lt, h', decide_true, cond_true, ix_nat h', List.length_set, chk_of, chk_true, bd_eq, getD_set h', List.set_set, hpk, Int.toNat_natCast, w64_id, Int.add_assoc, Int.reduceAdd, Option.bind_some]
    dsimp only
    rw [← hkk]
    refine (congrArg (fun z => ∃ q : List SClosed, z = some (k0 + ((n_LSClosed a : Nat) : Int), q) ∧ q.length = a.length ∧ ∀ i, i < a.length → Mk_LSClosed n (k0 + ((sumOf (fun y => 6) (a.take i) : Nat) : Int)) (a.getD i dSClosed) (q.getD i dSClosed)) (step _ _)).mpr ?_
    refine ih _ ⟨k + 1, _, h, Prod.ext (by dsimp only; omega) (Prod.ext (by dsimp only; omega) rfl), by simpa using hp, fun i hi => ?_, fun i hi => ?_⟩ (by dsimp only; omega)
    · by_cases e : i = k
      · subst e
        rw [getD_set h', ← hkk]
        unfold Mk_LSClosed
        exact ⟨rfl, rfl, rfl, rfl, rfl, rfl⟩
      · rw [getD_set_ne e]
        exact hm i (by omega)
    · rw [getD_set_ne (by omega)]
      exact hrest i (by omega)
  · have : k = a.length := by omega
    subst this
    unfold laws_markClosedS_L2
    simp only [hp, Int.lt_irrefl, decide_false, cond_false]
    rw [List.take_length]
    exact ⟨p, rfl, hp, hm⟩
theorem laws_markClosedS_ok {n : Nat} (a : List SClosed) (k0 : Int) (hk0 : 0 ≤ k0) (hb : k0 + ((n_LSClosed a : Nat) : Int) ≤ 900000000) (hw : w_LSClosed a ≤ 100000000) (hn : 1000000000 < n) : ∃ p : List SClosed, laws_markClosedS n a k0 = some (k0 + ((n_LSClosed a : Nat) : Int), p) := by
  obtain ⟨p, h1, h2, h3⟩ := laws_markClosedS_i (n := n) a k0 hk0 hb hw hn
  exact ⟨p, h1⟩
theorem laws_markSea_ok {n : Nat} (a : SSea) (k0 : Int) (hk0 : 0 ≤ k0) (hb : k0 + ((n_LInt a.Costs + n_LSClosed a.Shut : Nat) : Int) ≤ 900000000) (hw : w_SSea a ≤ 100000000) (hn : 1000000000 < n) : ∃ w0 w1, laws_markSea n a k0 = some (k0 + ((n_LInt a.Costs + n_LSClosed a.Shut : Nat) : Int), w0, w1) := by
  have hww : w_SSea a = w_LInt a.Costs + w_LSClosed a.Shut := rfl
  obtain ⟨w0, x0, y0⟩ := laws_markIntS_ok (n := n) a.Costs (k0) (by omega) (by omega) (by omega) hn
  obtain ⟨w1, x1⟩ := laws_markClosedS_ok (n := n) a.Shut (k0 + (n_LInt a.Costs : Int)) (by omega) (by omega) (by omega) hn
  refine ⟨w0, w1, ?_⟩
  unfold laws_markSea
  simp only [x0, x1, Option.bind_some]
  first | done | (congr 2; omega)
end Go.Sm
end

section
set_option linter.unusedSimpArgs false
set_option linter.deprecated false
set_option linter.unusedSectionVars false
set_option linter.unusedVariables false
set_option linter.unusedSimpArgs false
namespace Go.Sm
attribute [local irreducible] bd chk ix loopN
theorem in_spec (n : Nat) (x a b : Int) : spec_l1In n x a b = some (decide (a ≤ x ∧ x ≤ b)) := by
  unfold spec_l1In
  by_cases h0 : a ≤ x <;> by_cases h1 : x ≤ b <;> simp [h0, h1]
theorem in_impl (n : Nat) (x a b : Int) : impl_in n x a b = some (decide (a ≤ x ∧ x ≤ b)) := by
  unfold impl_in
  by_cases h0 : a ≤ x <;> by_cases h1 : x ≤ b <;> simp [h0, h1]
theorem all_iffR {p : Nat → Bool} {m : Nat} : (List.range m).all p = true ↔ ∀ k, k < m → p k = true := by
  rw [List.all_eq_true]
  exact ⟨fun h k hk => h k (List.mem_range.2 hk), fun h k hk => h k (List.mem_range.1 hk)⟩
abbrev g0 (c : List Int) (p : Nat) : Int := c.getD p 0
/-! ### Seas -/
def costB (l : List Int) (k : Nat) : Bool := decide (0 ≤ l.getD k 0 ∧ l.getD k 0 ≤ 1000)
abbrev shutAt (s : SSea) (k : Nat) : SClosed := s.Shut.getD k dSClosed
def shutB (s : SSea) (k : Nat) : Bool := decide (0 ≤ (shutAt s k).X0 ∧ (shutAt s k).X0 ≤ (shutAt s k).X1) && (decide (0 ≤ (shutAt s k).Y0 ∧ (shutAt s k).Y0 ≤ (shutAt s k).Y1) && (!decide ((shutAt s k).X1 ≥ 12) && (!decide ((shutAt s k).Y1 ≥ 12) && (decide (0 ≤ (shutAt s k).From ∧ (shutAt s k).From ≤ (shutAt s k).To) && !decide ((shutAt s k).To > 1000000)))))
def seaB (s : SSea) : Bool := decide (1 ≤ s.Wide ∧ s.Wide ≤ 12) && (decide (1 ≤ s.High ∧ s.High ≤ 12) && (decide ((s.Costs.length : Int) = w64 (s.Wide * s.High)) && (!decide ((s.Shut.length : Int) > 10) && ((List.range s.Costs.length).all (costB s.Costs) && (List.range s.Shut.length).all (shutB s)))))
structure SeaO (s : SSea) : Prop where
  w : 1 ≤ s.Wide ∧ s.Wide ≤ 12
  h : 1 ≤ s.High ∧ s.High ≤ 12
  len : (s.Costs.length : Int) = s.Wide * s.High
  hi : s.Costs.length ≤ 144
  cost : ∀ k, 0 ≤ g0 s.Costs k ∧ g0 s.Costs k ≤ 1000
theorem mul_le {a b : Int} (h1 : 1 ≤ a ∧ a ≤ 12) (h2 : 1 ≤ b ∧ b ≤ 12) : 1 ≤ a * b ∧ a * b ≤ 144 := by
  obtain ⟨x, rfl⟩ : ∃ x : Nat, a = (x : Int) := ⟨a.toNat, by omega⟩
  obtain ⟨y, rfl⟩ : ∃ y : Nat, b = (y : Int) := ⟨b.toNat, by omega⟩
  have p1 : x * y ≤ 12 * 12 := Nat.mul_le_mul (by omega) (by omega)
  have p2 : 1 * 1 ≤ x * y := Nat.mul_le_mul (by omega) (by omega)
  have e : ((x : Int) * (y : Int)) = ((x * y : Nat) : Int) := by simp
  omega
theorem seaO {s : SSea} (h : seaB s = true) : SeaO s := by
  unfold seaB at h
  simp only [Bool.and_eq_true] at h
  have h1 := of_decide_eq_true h.1
  have h2 := of_decide_eq_true h.2.1
  have h3 := of_decide_eq_true h.2.2.1
  obtain ⟨m1, m2⟩ := mul_le h1 h2
  rw [w64_id (by omega) (by omega)] at h3
  refine ⟨h1, h2, h3, by omega, fun k => ?_⟩
  by_cases hk : k < s.Costs.length
  · exact of_decide_eq_true (all_iffR.1 h.2.2.2.2.1 k hk)
  · have : g0 s.Costs k = 0 := by unfold g0; rw [List.getD, List.getElem?_eq_none (by omega)]; rfl
    omega
theorem sea_spec {n : Nat} (s : SSea) (hc : s.Costs.length ≤ 1048576) (hs : s.Shut.length ≤ 1048576) (hn : 1000000000 < n) : spec_SeaOk n s = some (seaB s) := by
  have ha : spec_l3All n s.Costs 0 1000 = some ((List.range s.Costs.length).all (costB s.Costs)) := by
    unfold spec_l3All
    rw [loop_all (p := costB s.Costs) (len := s.Costs.length) (no := some false) (yes := some true) (by omega) (fun k J h _ => ?_) (fun J _ => ?_) (by omega)]
    · rw [bif_tf]
    · unfold spec_l3All_L2 costB
      simp only [Int.ofNat_lt, h, decide_true, cond_true, ix_nat h, in_spec, Option.bind_some, Int.toNat_natCast, w64_succ (show k < 9223372036854775807 by omega), bif_not]
    · unfold spec_l3All_L2
      simp only [Int.lt_irrefl, decide_false, cond_false]
  have hl : loopN (fun (x : Int) J' => spec_SeaOk_L4 n (some (true)) (fun t26 => some (t26)) J' x s) n (0 : Int) = some ((List.range s.Shut.length).all (shutB s)) := by
    rw [loop_all (p := shutB s) (len := s.Shut.length) (no := some false) (yes := some true) (by omega) (fun k J h _ => ?_) (fun J _ => ?_) (by omega)]
    · rw [bif_tf]
    · unfold spec_SeaOk_L4 spec_SeaOk_k0 shutB
      simp only [Int.ofNat_lt, h, decide_true, cond_true, ix_nat h, bd_eq, Int.toNat_natCast, in_spec, Option.bind_some, w64_succ (show k < 9223372036854775807 by omega)]
      cases decide (0 ≤ (shutAt s k).X0 ∧ (shutAt s k).X0 ≤ (shutAt s k).X1) <;> cases decide (0 ≤ (shutAt s k).Y0 ∧ (shutAt s k).Y0 ≤ (shutAt s k).Y1) <;> cases decide ((shutAt s k).X1 ≥ 12) <;> cases decide ((shutAt s k).Y1 ≥ 12) <;> cases decide (0 ≤ (shutAt s k).From ∧ (shutAt s k).From ≤ (shutAt s k).To) <;> cases decide ((shutAt s k).To > 1000000) <;> rfl
    · unfold spec_SeaOk_L4
      simp only [Int.lt_irrefl, decide_false, cond_false]
  unfold spec_SeaOk seaB
  simp only [in_spec, Option.bind_some, bd_eq, ha, hl]
  cases decide (1 ≤ s.Wide ∧ s.Wide ≤ 12) <;> cases decide (1 ≤ s.High ∧ s.High ≤ 12) <;> cases decide ((s.Costs.length : Int) = w64 (s.Wide * s.High)) <;> cases decide ((s.Shut.length : Int) > 10) <;> cases (List.range s.Costs.length).all (costB s.Costs) <;> rfl
theorem sea_impl {n : Nat} (s : SSea) (hc : s.Costs.length ≤ 1048576) (hs : s.Shut.length ≤ 1048576) (hn : 1000000000 < n) : impl_SeaOk n s = some (seaB s) := by
  have ha : impl_all n s.Costs 0 1000 = some ((List.range s.Costs.length).all (costB s.Costs)) := by
    unfold impl_all slices_ContainsFunc_int_int__impl_all_1 slices_IndexFunc_int_int__impl_all_1
    rw [loop_idx (p := fun k => !costB s.Costs k) (len := s.Costs.length) (by omega) (fun k J h _ => ?_) (fun J _ => ?_) (by omega)]
    · rw [Option.bind_some, idxOf_ge, Option.bind_some, ← List.all_eq_not_any_not]
    · unfold slices_IndexFunc_int_int__impl_all_1_L2 impl_all_1 costB
      simp only [Int.ofNat_lt, h, decide_true, cond_true, ix_nat h, Int.toNat_natCast, in_impl, Option.bind_some, w64_succ (show k < 9223372036854775807 by omega)]
    · unfold slices_IndexFunc_int_int__impl_all_1_L2
      simp only [Int.lt_irrefl, decide_false, cond_false]
  have hl : loopN (fun (x : Int) J' => impl_SeaOk_L4 n (some (true)) (fun t27 => some (t27)) J' s.Shut (s.Shut.length : Int) x) n (0 : Int) = some ((List.range s.Shut.length).all (shutB s)) := by
    rw [loop_all (p := shutB s) (len := s.Shut.length) (no := some false) (yes := some true) (by omega) (fun k J h _ => ?_) (fun J _ => ?_) (by omega)]
    · rw [bif_tf]
    · unfold impl_SeaOk_L4 impl_SeaOk_k0 shutB
      have e1 : decide ((shutAt s k).X1 > 11) = decide ((shutAt s k).X1 ≥ 12) := by simp only [decide_eq_decide]; omega
      have e2 : decide ((shutAt s k).Y1 > 11) = decide ((shutAt s k).Y1 ≥ 12) := by simp only [decide_eq_decide]; omega
      simp only [Int.ofNat_lt, h, decide_true, cond_true, ix_nat h, bd_eq, Int.toNat_natCast, in_impl, Option.bind_some, w64_succ (show k < 9223372036854775807 by omega), e1, e2]
      cases decide (0 ≤ (shutAt s k).X0 ∧ (shutAt s k).X0 ≤ (shutAt s k).X1) <;> cases decide (0 ≤ (shutAt s k).Y0 ∧ (shutAt s k).Y0 ≤ (shutAt s k).Y1) <;> cases decide ((shutAt s k).X1 ≥ 12) <;> cases decide ((shutAt s k).Y1 ≥ 12) <;> cases decide (0 ≤ (shutAt s k).From ∧ (shutAt s k).From ≤ (shutAt s k).To) <;> cases decide ((shutAt s k).To > 1000000) <;> rfl
    · unfold impl_SeaOk_L4
      simp only [Int.lt_irrefl, decide_false, cond_false]
  unfold impl_SeaOk seaB
  simp only [in_impl, Option.bind_some, bd_eq, ha, hl]
  cases decide (1 ≤ s.Wide ∧ s.Wide ≤ 12) <;> cases decide (1 ≤ s.High ∧ s.High ≤ 12) <;> cases decide ((s.Costs.length : Int) = w64 (s.Wide * s.High)) <;> cases decide ((s.Shut.length : Int) > 10) <;> cases (List.range s.Costs.length).all (costB s.Costs) <;> rfl
def placeB (s : SSea) (p : Int) : Bool := decide (0 ≤ p ∧ p ≤ (s.Costs.length : Int) - 1)
theorem place_spec {n : Nat} {s : SSea} (h : SeaO s) (p : Int) : spec_l7Place n s p = some (placeB s p) := by
  have h1 := h.len
  have h2 := h.hi
  unfold spec_l7Place placeB
  rw [bd_eq, in_spec, Option.bind_some, w64_id (x := s.Wide * s.High) (by omega) (by omega), ← h1, w64_id (by omega) (by omega)]
theorem place_impl {n : Nat} {s : SSea} (h : SeaO s) (p : Int) : impl_Sea_place n s p = some (placeB s p) := by
  have h1 := h.len
  have h2 := h.hi
  unfold impl_Sea_place placeB
  rw [bd_eq, in_impl, Option.bind_some, w64_id (by omega) (by omega)]
/-! ### Neighbours -/
abbrev xO (s : SSea) (p : Nat) : Int := Int.tmod (p : Int) s.Wide
abbrev yO (s : SSea) (p : Nat) : Int := Int.tdiv (p : Int) s.Wide
theorem xy {s : SSea} (h : SeaO s) {p : Nat} (hp : p < s.Costs.length) : 0 ≤ xO s p ∧ xO s p < s.Wide ∧ 0 ≤ yO s p ∧ yO s p < s.High ∧ (p : Int) = s.Wide * yO s p + xO s p := by
  have h1 := h.w
  have h2 := h.len
  have e : s.Wide * Int.tdiv (p : Int) s.Wide + Int.tmod (p : Int) s.Wide = (p : Int) := Int.mul_tdiv_add_tmod _ _
  have a1 : 0 ≤ xO s p := Int.tmod_nonneg _ (by omega)
  have a2 : xO s p < s.Wide := Int.tmod_lt_of_pos _ (by omega)
  have a3 : 0 ≤ yO s p := Int.tdiv_nonneg (by omega) (by omega)
  refine ⟨a1, a2, a3, ?_, e.symm⟩
  by_cases c : yO s p < s.High
  · exact c
  · exfalso
    have : s.Wide * s.High ≤ s.Wide * yO s p := Int.mul_le_mul_of_nonneg_left (by omega) (by omega)
    have e2 : s.Wide * yO s p + xO s p = (p : Int) := e
    omega
theorem xy_uniq {s : SSea} (h : SeaO s) {p : Nat} {x y : Int} (hx : 0 ≤ x ∧ x < s.Wide) (hp : p < s.Costs.length) (e : (p : Int) = s.Wide * y + x) : yO s p = y ∧ xO s p = x := by
  obtain ⟨a1, a2, a3, a4, a5⟩ := xy h hp
  have hw := h.w
  have hy : yO s p = y := by
    by_cases c : yO s p < y
    · exfalso
      have : s.Wide * (yO s p + 1) ≤ s.Wide * y := Int.mul_le_mul_of_nonneg_left (by omega) (by omega)
      rw [Int.mul_add, Int.mul_one] at this
      omega
    · by_cases c2 : y < yO s p
      · exfalso
        have : s.Wide * (y + 1) ≤ s.Wide * yO s p := Int.mul_le_mul_of_nonneg_left (by omega) (by omega)
        rw [Int.mul_add, Int.mul_one] at this
        omega
      · omega
  refine ⟨hy, ?_⟩
  rw [hy] at a5
  omega
/-- Is one place beside another? -/
def besideB (s : SSea) (p q : Nat) : Bool := decide (xO s p = xO s q ∧ (yO s p = yO s q + 1 ∨ yO s q = yO s p + 1) ∨ yO s p = yO s q ∧ (xO s p = xO s q + 1 ∨ xO s q = xO s p + 1))
theorem sq_one {a b : Int} : a * a + b * b = 1 ↔ a = 0 ∧ (b = 1 ∨ b = -1) ∨ b = 0 ∧ (a = 1 ∨ a = -1) := by
  constructor
  · intro h
    have ha : 0 ≤ a * a := by
      rcases Int.le_total 0 a with c | c
      · exact Int.mul_nonneg c c
      · exact Int.mul_nonneg_of_nonpos_of_nonpos c c
    have hb : 0 ≤ b * b := by
      rcases Int.le_total 0 b with c | c
      · exact Int.mul_nonneg c c
      · exact Int.mul_nonneg_of_nonpos_of_nonpos c c
    have small : ∀ x : Int, x * x ≤ 1 → x = 0 ∨ x = 1 ∨ x = -1 := by
      intro x hx
      by_cases c1 : 2 ≤ x
      · have : 2 * 2 ≤ x * x := Int.mul_le_mul c1 c1 (by omega) (by omega)
        omega
      · by_cases c2 : x ≤ -2
        · have : 2 * 2 ≤ (-x) * (-x) := Int.mul_le_mul (by omega) (by omega) (by omega) (by omega)
          rw [Int.neg_mul_neg] at this
          omega
        · omega
    have s1 := small a (by omega)
    have s2 := small b (by omega)
    rcases s1 with rfl | rfl | rfl <;> rcases s2 with rfl | rfl | rfl <;> simp at h ⊢
  · rintro (⟨rfl, rfl | rfl⟩ | ⟨rfl, rfl | rfl⟩) <;> rfl
theorem next_spec {n : Nat} {s : SSea} (h : SeaO s) {p q : Nat} (hp : p < s.Costs.length) (hq : q < s.Costs.length) : spec_l7Next n s (p : Int) (q : Int) = some (besideB s p q) := by
  obtain ⟨a1, a2, a3, a4, a5⟩ := xy h hp
  obtain ⟨b1, b2, b3, b4, b5⟩ := xy h hq
  have hw := h.w
  have hh := h.h
  unfold spec_l7Next besideB
  rw [decide_eq_false (show ¬ s.Wide = 0 by omega)]
  simp only [cond_false, bd_eq]
  rw [w64_id (x := yO s p) (by omega) (by omega), w64_id (x := yO s q) (by omega) (by omega), w64_id (x := xO s p - xO s q) (by omega) (by omega), w64_id (x := yO s p - yO s q) (by omega) (by omega)]
  have bd2 : ∀ d : Int, -12 ≤ d → d ≤ 12 → 0 ≤ d * d ∧ d * d ≤ 144 := by
    intro d d1 d2
    have e : ∃ k : Nat, k ≤ 12 ∧ d * d = ((k * k : Nat) : Int) := by
      rcases Int.le_total 0 d with c | c
      · refine ⟨d.toNat, by omega, ?_⟩
        have : d = (d.toNat : Int) := by omega
        rw [Int.natCast_mul, ← this]
      · refine ⟨(-d).toNat, by omega, ?_⟩
        have : -d = ((-d).toNat : Int) := by omega
        rw [Int.natCast_mul, ← this, Int.neg_mul_neg]
    obtain ⟨k, k1, k2⟩ := e
    have : k * k ≤ 12 * 12 := Nat.mul_le_mul k1 k1
    omega
  have q1 := bd2 (xO s p - xO s q) (by omega) (by omega)
  have q2 := bd2 (yO s p - yO s q) (by omega) (by omega)
  rw [w64_id (x := (xO s p - xO s q) * (xO s p - xO s q)) (by omega) (by omega), w64_id (x := (yO s p - yO s q) * (yO s p - yO s q)) (by omega) (by omega), w64_id (by omega) (by omega)]
  congr 1
  simp only [decide_eq_decide]
  rw [sq_one]
  constructor
  · rintro (⟨c1, c2⟩ | ⟨c1, c2⟩)
    · exact .inl ⟨by omega, by omega⟩
    · exact .inr ⟨by omega, by omega⟩
  · rintro (⟨c1, c2⟩ | ⟨c1, c2⟩)
    · exact .inl ⟨by omega, by omega⟩
    · exact .inr ⟨by omega, by omega⟩
/-- The places beside one, in order. -/
def besides (s : SSea) (p : Nat) : List Nat := (List.range s.Costs.length).filter (besideB s p)
end Go.Sm
end

section
set_option linter.unusedSimpArgs false
set_option linter.deprecated false
set_option linter.unusedSectionVars false
set_option linter.unusedVariables false
set_option linter.unusedSimpArgs false
namespace Go.Sm
attribute [local irreducible] bd chk ix loopN
theorem loopN_step {X R : Type} {b : X → (X → Option R) → Option R} {n : Nat} (hn : 0 < n) (x : X) : loopN b n x = b x (loopN b (n - 1)) := by
  obtain ⟨m, rfl⟩ : ∃ m, n = m + 1 := ⟨n - 1, by omega⟩
  rw [loopN_succ]
  rfl
theorem set_get {c : List Int} {p : Nat} {v : Int} {q : Nat} : g0 (c.set p v) q = if p = q ∧ q < c.length then v else g0 c q := by
  unfold g0
  by_cases h : p = q
  · subst h
    by_cases h2 : p < c.length
    · rw [if_pos ⟨rfl, h2⟩]
      simp [List.getD, h2]
    · rw [if_neg (fun x => h2 x.2)]
      simp [List.getD, h2]
  · rw [if_neg (fun x => h x.1)]
    simp [List.getD, List.getElem?_set, h]
/-! ### Neighbours as the program lists them -/
def nextL (s : SSea) (p : Nat) : List Int :=
  (if yO s p > 0 then [(p : Int) - s.Wide] else []) ++ ((if xO s p > 0 then [(p : Int) - 1] else []) ++ ((if xO s p < s.Wide - 1 then [(p : Int) + 1] else []) ++ (if yO s p < s.High - 1 then [(p : Int) + s.Wide] else [])))
theorem next_impl {n : Nat} {s : SSea} (h : SeaO s) {p : Nat} (hp : p < s.Costs.length) : impl_Sea_next n s (p : Int) = some (nextL s p) := by
  obtain ⟨a1, a2, a3, a4, a5⟩ := xy h hp
  have hw := h.w
  have hh := h.h
  have hi := h.hi
  unfold impl_Sea_next impl_Sea_next_k0 impl_Sea_next_k1 impl_Sea_next_k2 impl_Sea_next_k3 nextL
  rw [decide_eq_false (show ¬ s.Wide = 0 by omega)]
  obtain ⟨X, hX⟩ : ∃ X, Int.tmod (p : Int) s.Wide = X := ⟨_, rfl⟩
  obtain ⟨Y, hY⟩ : ∃ Y, Int.tdiv (p : Int) s.Wide = Y := ⟨_, rfl⟩
  simp only [xO, yO, hX, hY] at a1 a2 a3 a4 a5
  simp only [xO, yO, hX, hY, cond_false, bd_eq, w64_id (show -9223372036854775808 ≤ Y by omega) (show Y ≤ 9223372036854775807 by omega),
    w64_id (show -9223372036854775808 ≤ s.Wide - 1 by omega) (show s.Wide - 1 ≤ 9223372036854775807 by omega), w64_id (show -9223372036854775808 ≤ s.High - 1 by omega) (show s.High - 1 ≤ 9223372036854775807 by omega),
    w64_id (show -9223372036854775808 ≤ (p : Int) - s.Wide by omega) (show (p : Int) - s.Wide ≤ 9223372036854775807 by omega), w64_id (show -9223372036854775808 ≤ (p : Int) + s.Wide by omega) (show (p : Int) + s.Wide ≤ 9223372036854775807 by omega),
    w64_id (show -9223372036854775808 ≤ (p : Int) - 1 by omega) (show (p : Int) - 1 ≤ 9223372036854775807 by omega), w64_id (show -9223372036854775808 ≤ (p : Int) + 1 by omega) (show (p : Int) + 1 ≤ 9223372036854775807 by omega)]
  by_cases c1 : Y > 0 <;> by_cases c2 : X > 0 <;> by_cases c3 : X < s.Wide - 1 <;> by_cases c4 : Y < s.High - 1 <;>
    simp [c1, c2, c3, c4, chk_true]
theorem next_mem {s : SSea} (h : SeaO s) {p : Nat} (hp : p < s.Costs.length) {z : Int} : z ∈ nextL s p ↔ ∃ q : Nat, z = (q : Int) ∧ q < s.Costs.length ∧ besideB s p q = true := by
  obtain ⟨a1, a2, a3, a4, a5⟩ := xy h hp
  have hw := h.w
  have hh := h.h
  have hl := h.len
  have up : s.Wide * (yO s p + 1) ≤ s.Wide * s.High := Int.mul_le_mul_of_nonneg_left (by omega) (by omega)
  have key : ∀ (x y : Int), 0 ≤ x ∧ x < s.Wide → 0 ≤ y ∧ y < s.High → z = s.Wide * y + x → ∃ q : Nat, z = (q : Int) ∧ q < s.Costs.length ∧ yO s q = y ∧ xO s q = x := by
    intro x y hx hy hz
    have b1 : 0 ≤ s.Wide * y := Int.mul_nonneg (by omega) hy.1
    have b2 : s.Wide * (y + 1) ≤ s.Wide * s.High := Int.mul_le_mul_of_nonneg_left (by omega) (by omega)
    rw [Int.mul_add, Int.mul_one] at b2
    have hq : z.toNat < s.Costs.length := by omega
    have e : ((z.toNat : Nat) : Int) = s.Wide * y + x := by omega
    obtain ⟨c1, c2⟩ := xy_uniq h hx hq e
    exact ⟨z.toNat, by omega, hq, c1, c2⟩
  have m1 : s.Wide * (yO s p - 1) = s.Wide * yO s p - s.Wide := by rw [Int.mul_sub, Int.mul_one]
  have m2 : s.Wide * (yO s p + 1) = s.Wide * yO s p + s.Wide := by rw [Int.mul_add, Int.mul_one]
  unfold nextL
  simp only [List.mem_append]
  constructor
  · rintro (hz | hz | hz | hz)
    · by_cases c : yO s p > 0
      · rw [if_pos c, List.mem_singleton] at hz
        obtain ⟨q, q1, q2, q3, q4⟩ := key (xO s p) (yO s p - 1) ⟨a1, a2⟩ (by omega) (by omega)
        exact ⟨q, q1, q2, decide_eq_true (by omega)⟩
      · rw [if_neg c] at hz; cases hz
    · by_cases c : xO s p > 0
      · rw [if_pos c, List.mem_singleton] at hz
        obtain ⟨q, q1, q2, q3, q4⟩ := key (xO s p - 1) (yO s p) (by omega) (by omega) (by omega)
        exact ⟨q, q1, q2, decide_eq_true (by omega)⟩
      · rw [if_neg c] at hz; cases hz
    · by_cases c : xO s p < s.Wide - 1
      · rw [if_pos c, List.mem_singleton] at hz
        obtain ⟨q, q1, q2, q3, q4⟩ := key (xO s p + 1) (yO s p) (by omega) (by omega) (by omega)
        exact ⟨q, q1, q2, decide_eq_true (by omega)⟩
      · rw [if_neg c] at hz; cases hz
    · by_cases c : yO s p < s.High - 1
      · rw [if_pos c, List.mem_singleton] at hz
        obtain ⟨q, q1, q2, q3, q4⟩ := key (xO s p) (yO s p + 1) (by omega) (by omega) (by omega)
        exact ⟨q, q1, q2, decide_eq_true (by omega)⟩
      · rw [if_neg c] at hz; cases hz
  · rintro ⟨q, rfl, hq, hb⟩
    obtain ⟨b1, b2, b3, b4, b5⟩ := xy h hq
    have hb := of_decide_eq_true hb
    rcases hb with ⟨e1, e2 | e2⟩ | ⟨e1, e2 | e2⟩
    · left
      have : s.Wide * yO s q = s.Wide * yO s p - s.Wide := by rw [← m1]; congr 1; omega
      rw [if_pos (by omega), List.mem_singleton]
      omega
    · right; right; right
      have : s.Wide * yO s q = s.Wide * yO s p + s.Wide := by rw [← m2]; congr 1
      rw [if_pos (by omega), List.mem_singleton]
      omega
    · right; left
      rw [if_pos (by omega), List.mem_singleton]
      rw [← e1] at b5
      omega
    · right; right; left
      rw [if_pos (by omega), List.mem_singleton]
      rw [← e1] at b5
      omega
theorem beside_comm (s : SSea) (p q : Nat) : besideB s p q = besideB s q p := by
  unfold besideB
  simp only [decide_eq_decide]
  omega
theorem beside_ne {s : SSea} {p q : Nat} (h : besideB s p q = true) : p ≠ q := by
  intro e
  subst e
  have := of_decide_eq_true h
  omega
/-! ### Labels -/
inductive Way (s : SSea) (fr : Nat) : Nat → Int → Prop
  | start : Way s fr fr 0
  | step {a b : Nat} {d : Int} : Way s fr a d → a < s.Costs.length → b < s.Costs.length → besideB s a b = true → 0 < g0 s.Costs b → Way s fr b (d + g0 s.Costs b)
def posC (w : List Int) : Nat := (w.filter fun x => decide (0 ≤ x)).length
theorem posC_le (w : List Int) : posC w ≤ w.length := List.length_filter_le _ _
theorem posC_new : ∀ (c : List Int) (p : Nat) (v : Int), p < c.length → g0 c p < 0 → 0 ≤ v → posC (c.set p v) = posC c + 1
  | [], _, _, h, _, _ => absurd h (Nat.not_lt_zero _)
  | x :: c, 0, v, _, hx, hv => by
    have hx : x < 0 := hx
    unfold posC
    rw [List.set_cons_zero, List.filter_cons_of_pos (by simpa using hv), List.filter_cons_of_neg (by simpa using hx)]
    rfl
  | x :: c, p + 1, v, h, hx, hv => by
    have ih := posC_new c p v (Nat.lt_of_succ_lt_succ h) hx hv
    unfold posC at ih ⊢
    rw [List.set_cons_succ]
    by_cases c1 : 0 ≤ x
    · rw [List.filter_cons_of_pos (by simpa using c1), List.filter_cons_of_pos (by simpa using c1), List.length_cons, List.length_cons, ih]
    · rw [List.filter_cons_of_neg (by simpa using c1), List.filter_cons_of_neg (by simpa using c1), ih]
theorem posC_old : ∀ (c : List Int) (p : Nat) (v : Int), p < c.length → 0 ≤ g0 c p → 0 ≤ v → posC (c.set p v) = posC c
  | [], _, _, h, _, _ => absurd h (Nat.not_lt_zero _)
  | x :: c, 0, v, _, hx, hv => by
    have hx : 0 ≤ x := hx
    unfold posC
    rw [List.set_cons_zero, List.filter_cons_of_pos (by simpa using hv), List.filter_cons_of_pos (by simpa using hx)]
    rfl
  | x :: c, p + 1, v, h, hx, hv => by
    have ih := posC_old c p v (Nat.lt_of_succ_lt_succ h) hx hv
    unfold posC at ih ⊢
    rw [List.set_cons_succ]
    by_cases c1 : 0 ≤ x
    · rw [List.filter_cons_of_pos (by simpa using c1), List.filter_cons_of_pos (by simpa using c1), List.length_cons, List.length_cons, ih]
    · rw [List.filter_cons_of_neg (by simpa using c1), List.filter_cons_of_neg (by simpa using c1), ih]
def wt (x : Int) : Nat := if x < 0 then 200000 else x.toNat
def mu (c : List Int) : Nat := sumOf wt c
theorem mu_set : ∀ (c : List Int) (p : Nat) (v : Int), p < c.length → wt v < wt (g0 c p) → mu (c.set p v) < mu c
  | [], _, _, h, _ => absurd h (Nat.not_lt_zero _)
  | x :: c, 0, v, _, hx => by
    show wt v + mu c < wt x + mu c
    have hx : wt v < wt x := hx
    omega
  | x :: c, p + 1, v, h, hx => by
    have ih := mu_set c p v (Nat.lt_of_succ_lt_succ h) hx
    show wt x + mu (c.set p v) < wt x + mu c
    omega
structure Lab (s : SSea) (fr : Nat) (c : List Int) : Prop where
  len : c.length = s.Costs.length
  fr0 : g0 c fr = 0
  way : ∀ p, p < s.Costs.length → 0 ≤ g0 c p → Way s fr p (g0 c p)
  cap : ∀ p, g0 c p ≤ 1000 * (posC c : Int)
  low : ∀ p, -1 ≤ g0 c p
theorem Lab.le {s : SSea} {fr : Nat} {c : List Int} (hs : SeaO s) (h : Lab s fr c) (p : Nat) : g0 c p ≤ 144000 := by
  have h1 := h.cap p
  have h2 := posC_le c
  have h3 := h.len
  have h4 := hs.hi
  omega
def lowB (s : SSea) (c : List Int) (a b : Nat) : Bool := decide (g0 c b < 0) || decide (g0 c a + g0 s.Costs b < g0 c b)
theorem Lab.relax {s : SSea} {fr : Nat} {c : List Int} (hs : SeaO s) (h : Lab s fr c) {a b : Nat} (ha : a < s.Costs.length) (hb : b < s.Costs.length) (h0 : 0 ≤ g0 c a) (hbe : besideB s a b = true) (hc : 0 < g0 s.Costs b) (hlow : lowB s c a b = true) :
    Lab s fr (c.set b (g0 c a + g0 s.Costs b)) ∧ mu (c.set b (g0 c a + g0 s.Costs b)) < mu c := by
  have hlen := h.len
  have hcost := (hs.cost b).2
  have hle := h.le hs a
  have hbl : b < c.length := by omega
  unfold lowB at hlow
  rw [Bool.or_eq_true, decide_eq_true_eq, decide_eq_true_eq] at hlow
  have hfr : b ≠ fr := by
    intro e
    subst e
    have := h.fr0
    omega
  refine ⟨⟨by rw [List.length_set]; exact hlen, ?_, fun p hp hg => ?_, fun p => ?_, fun p => ?_⟩, ?_⟩
  · rw [set_get, if_neg (fun x => hfr x.1)]
    exact h.fr0
  · rw [set_get] at hg ⊢
    by_cases e : b = p ∧ p < c.length
    · rw [if_pos e] at hg ⊢
      rw [← e.1]
      exact .step (h.way a ha h0) ha hb hbe hc
    · rw [if_neg e] at hg ⊢
      exact h.way p hp hg
  · have hp1 : posC c ≤ posC (c.set b (g0 c a + g0 s.Costs b)) := by
      by_cases c1 : g0 c b < 0
      · rw [posC_new c b _ hbl c1 (by omega)]; omega
      · rw [posC_old c b _ hbl (by omega) (by omega)]; omega
    rw [set_get]
    by_cases e : b = p ∧ p < c.length
    · rw [if_pos e]
      by_cases c1 : g0 c b < 0
      · rw [posC_new c b _ hbl c1 (by omega)]
        have := h.cap a
        omega
      · have := h.cap b
        omega
    · rw [if_neg e]
      have := h.cap p
      omega
  · rw [set_get]
    by_cases e : b = p ∧ p < c.length
    · rw [if_pos e]; omega
    · rw [if_neg e]; exact h.low p
  · refine mu_set c b _ hbl ?_
    unfold wt
    rw [if_neg (by omega)]
    split <;> omega
def Fix (s : SSea) (c : List Int) : Prop := ∀ a b, a < s.Costs.length → b < s.Costs.length → 0 ≤ g0 c a → besideB s a b = true → 0 < g0 s.Costs b → lowB s c a b = false
theorem least {s : SSea} {fr : Nat} {c : List Int} (h : Lab s fr c) (hf : Fix s c) {p : Nat} {d : Int} (hw : Way s fr p d) : 0 ≤ g0 c p ∧ g0 c p ≤ d := by
  induction hw with
  | start => rw [h.fr0]; omega
  | step hw ha hb hbe hc ih =>
    have := hf _ _ ha hb ih.1 hbe hc
    unfold lowB at this
    rw [Bool.or_eq_false_iff, decide_eq_false_iff_not, decide_eq_false_iff_not] at this
    omega
theorem lab_uniq {s : SSea} {fr : Nat} {c c' : List Int} (h : Lab s fr c) (hf : Fix s c) (h' : Lab s fr c') (hf' : Fix s c') : c = c' := by
  apply List.ext_getElem
  · rw [h.len, h'.len]
  · intro p h1 h2
    have hp : p < s.Costs.length := by rw [← h.len]; exact h1
    have e : g0 c p = g0 c' p := by
      have l1 := h.low p
      have l2 := h'.low p
      by_cases c1 : 0 ≤ g0 c p
      · have q1 := least h' hf' (h.way p hp c1)
        have q2 := least h hf (h'.way p hp q1.1)
        omega
      · by_cases c2 : 0 ≤ g0 c' p
        · have q2 := least h hf (h'.way p hp c2)
          omega
        · omega
    unfold g0 at e
    rw [getD_eq h1, getD_eq h2] at e
    exact e
end Go.Sm
end

section
set_option linter.unusedSimpArgs false
set_option linter.deprecated false
set_option linter.unusedSectionVars false
set_option linter.unusedVariables false
set_option linter.unusedSimpArgs false
namespace Go.Sm
attribute [local irreducible] bd chk ix loopN
def relB (s : SSea) (c : List Int) (a b : Nat) : Bool := decide (0 ≤ g0 c a) && (besideB s a b && (decide (0 < g0 s.Costs b) && lowB s c a b))
structure Prog (s : SSea) (fr : Nat) (c0 : List Int) (E : Nat → Nat → Prop) (again : Bool) (c : List Int) : Prop where
  lab : Lab s fr c
  same : again = false → c = c0 ∧ ∀ a b, E a b → a < s.Costs.length → b < s.Costs.length → 0 ≤ g0 c0 a → besideB s a b = true → 0 < g0 s.Costs b → lowB s c0 a b = false
  less : again = true → mu c < mu c0
theorem Prog.weak {s : SSea} {fr : Nat} {c0 c : List Int} {E E' : Nat → Nat → Prop} {ag : Bool} (h : Prog s fr c0 E ag c) (he : ag = false → ∀ a b, E' a b → a < s.Costs.length → b < s.Costs.length → besideB s a b = true → 0 < g0 s.Costs b → 0 ≤ g0 c0 a → E a b) : Prog s fr c0 E' ag c :=
  ⟨h.lab, fun hf => ⟨(h.same hf).1, fun a b hE ha hb h0 hbe hc => (h.same hf).2 a b (he hf a b hE ha hb hbe hc h0) ha hb h0 hbe hc⟩, h.less⟩
theorem Prog.step {s : SSea} {fr : Nat} {c0 c : List Int} {E : Nat → Nat → Prop} {ag : Bool} (hs : SeaO s) (h : Prog s fr c0 E ag c) {a b : Nat} (ha : a < s.Costs.length) (hb : b < s.Costs.length) :
    Prog s fr c0 (fun x y => E x y ∨ (x = a ∧ y = b)) (bif relB s c a b then true else ag) (bif relB s c a b then c.set b (g0 c a + g0 s.Costs b) else c) := by
  cases hr : relB s c a b with
  | true =>
    have hr2 := hr
    unfold relB at hr2
    simp only [Bool.and_eq_true] at hr2
    obtain ⟨l1, l2⟩ := h.lab.relax hs ha hb (of_decide_eq_true hr2.1) hr2.2.1 (of_decide_eq_true hr2.2.2.1) hr2.2.2.2
    refine ⟨l1, fun hf => Bool.noConfusion hf, fun _ => ?_⟩
    cases ag with
    | false => rw [(h.same rfl).1] at l2; exact (by rw [(h.same rfl).1]; exact l2)
    | true => exact Nat.lt_trans l2 (h.less rfl)
  | false =>
    refine ⟨h.lab, fun hf => ?_, h.less⟩
    obtain ⟨e, h2⟩ := h.same hf
    refine ⟨e, fun x y hE hx hy h0 hbe hc => ?_⟩
    rcases hE with hE | ⟨rfl, rfl⟩
    · exact h2 x y hE hx hy h0 hbe hc
    · rw [e] at hr
      unfold relB at hr
      rw [decide_eq_true h0, hbe, decide_eq_true hc] at hr
      exact hr
theorem w_sum {s : SSea} {fr : Nat} {c : List Int} (hs : SeaO s) (h : Lab s fr c) (a b : Nat) : w64 (g0 c a + g0 s.Costs b) = g0 c a + g0 s.Costs b := by
  have h1 := h.le hs a
  have h2 := h.low a
  have h3 := hs.cost b
  exact w64_id (by omega) (by omega)
/-! ### The reference -/
theorem spec_pull {R : Type} {n : Nat} (kx6 : Bool → List Int → Option R) {s : SSea} {fr : Nat} {c0 : List Int} (hs : SeaO s) (hn : 1000000000 < n) {E : Nat → Nat → Prop} {ag : Bool} {c : List Int} (h : Prog s fr c0 E ag c) {p : Nat} (hp : p < s.Costs.length) :
    ∃ ag' c', Prog s fr c0 (fun a b => E a b ∨ b = p) ag' c' ∧ loopN (fun (x : Bool × Int × List Int) J' => spec_Cheapest_L18 n kx6 (fun again84 q85 out86 => J' (again84, q85, out86)) x.1 (p : Int) x.2.1 s x.2.2) n (ag, (0 : Int), c) = kx6 ag' c' := by
  have hhi := hs.hi
  by_cases hcp : 0 < g0 s.Costs p
  · refine loop_runS (S := Bool × List Int) (X := Bool × Int × List Int) (enc := fun k st => (st.1, k, st.2)) (len := s.Costs.length) (I := fun k st => Prog s fr c0 (fun a b => E a b ∨ (b = p ∧ a < k)) st.1 st.2)
      (Q := fun r => ∃ ag' c', Prog s fr c0 (fun a b => E a b ∨ b = p) ag' c' ∧ r = kx6 ag' c') (fun k st J hk hi => ?_) (fun st J hi => ?_) (by omega) (s0 := (ag, c)) (h.weak fun hag a b hE _ _ _ _ _ => hE.elim id fun x => absurd x.2 (Nat.not_lt_zero _))
    · have hl := hi.lab.len
      refine ⟨(bif relB s st.2 k p then true else st.1, bif relB s st.2 k p then st.2.set p (g0 st.2 k + g0 s.Costs p) else st.2), ?_, ?_⟩
      · refine (hi.step hs hk hp).weak fun hag a b hE ha hb hbe hc hf => ?_
        rcases hE with hE | ⟨h1, h2⟩
        · exact .inl (.inl hE)
        · by_cases e : a = k
          · exact .inr ⟨e, h1⟩
          · exact .inl (.inr ⟨h1, by omega⟩)
      · show spec_Cheapest_L18 n kx6 _ st.1 (p : Int) (k : Int) s st.2 = _
        unfold spec_Cheapest_L18 spec_Cheapest_k2 spec_Cheapest_k0 spec_Cheapest_k1
        have hw := w_sum hs hi.lab k p
        have ek : st.2.getD k 0 = g0 st.2 k := rfl
        have ep : st.2.getD p 0 = g0 st.2 p := rfl
        have ec : s.Costs.getD p 0 = g0 s.Costs p := rfl
        simp only [decide_eq_true (show (k : Int) < (st.2.length : Int) by omega), cond_true, ix_nat hp, Int.toNat_natCast, ek, ep, ec, decide_eq_true (show g0 s.Costs p > 0 by omega), ix_nat (show k < st.2.length by omega), chk_dec (show k < st.2.length by omega), ix_nat (show p < st.2.length by omega), chk_dec (show p < st.2.length by omega), next_spec hs hp hk, Option.bind_some, bd_eq, hw, w64_succ (show k < 9223372036854775807 by omega), beside_comm s p k]
        unfold relB lowB
        rw [decide_eq_true hcp]
        show (bif decide (g0 st.2 k ≥ 0) then _ else _) = _
        have e0 : decide (g0 st.2 k ≥ 0) = decide (0 ≤ g0 st.2 k) := rfl
        rw [e0]
        cases decide (0 ≤ g0 st.2 k) <;> cases besideB s k p <;> cases decide (g0 st.2 p < 0) <;> cases decide (g0 st.2 k + g0 s.Costs p < g0 st.2 p) <;> rfl
    · have hl := hi.lab.len
      refine ⟨st.1, st.2, hi.weak fun hag a b hE ha _ _ _ _ => hE.imp id fun x => ⟨x, ha⟩, ?_⟩
      show spec_Cheapest_L18 n kx6 _ st.1 (p : Int) (s.Costs.length : Int) s st.2 = _
      unfold spec_Cheapest_L18
      rw [decide_eq_false (by omega), cond_false]
  · refine ⟨ag, c, h.weak fun hag a b hE _ _ _ hc _ => hE.elim id fun x => absurd hc (by rw [x]; exact hcp), ?_⟩
    have hl := h.lab.len
    refine (loopN_step (by omega) _).trans ?_
    show spec_Cheapest_L18 n kx6 _ ag (p : Int) 0 s c = _
    unfold spec_Cheapest_L18
    rw [ix_nat hp, Int.toNat_natCast, show s.Costs.getD p 0 = g0 s.Costs p from rfl, decide_eq_false (show ¬ g0 s.Costs p > 0 by omega), cond_false]
    cases decide ((0 : Int) < (c.length : Int)) <;> rfl
theorem spec_pass {R : Type} {n : Nat} (kx4 : Bool → List Int → Option R) {s : SSea} {fr : Nat} {c0 : List Int} (hs : SeaO s) (hn : 1000000000 < n) (h : Lab s fr c0) :
    ∃ ag' c', Prog s fr c0 (fun _ _ => True) ag' c' ∧ loopN (fun (x : Bool × Int × List Int) J' => spec_Cheapest_L15 n kx4 (fun again94 p95 out96 => J' (again94, p95, out96)) x.1 x.2.1 s x.2.2) n (false, (0 : Int), c0) = kx4 ag' c' := by
  have hhi := hs.hi
  refine loop_runS (S := Bool × List Int) (X := Bool × Int × List Int) (enc := fun k st => (st.1, k, st.2)) (len := s.Costs.length) (I := fun k st => Prog s fr c0 (fun a b => b < k) st.1 st.2)
      (Q := fun r => ∃ ag' c', Prog s fr c0 (fun _ _ => True) ag' c' ∧ r = kx4 ag' c') (fun k st J hk hi => ?_) (fun st J hi => ?_) (by omega) (s0 := (false, c0)) ⟨h, fun _ => ⟨rfl, fun a b x => absurd x (Nat.not_lt_zero _)⟩, fun x => by cases x⟩
  · have hl := hi.lab.len
    obtain ⟨ag', c', h1, h2⟩ := spec_pull (n := n) (fun again82 out83 => J (again82, ((k + 1 : Nat) : Int), out83)) hs hn hi hk
    refine ⟨(ag', c'), h1.weak fun hag a b hE _ _ _ _ _ => ?_, ?_⟩
    · by_cases e : b = k
      · exact .inr e
      · exact .inl (by omega)
    · show spec_Cheapest_L15 n _ _ st.1 (k : Int) s st.2 = _
      unfold spec_Cheapest_L15
      rw [decide_eq_true (show (k : Int) < (st.2.length : Int) by omega), cond_true, w64_succ (by omega)]
      exact h2
  · have hl := hi.lab.len
    refine ⟨st.1, st.2, hi.weak fun hag a b _ _ hb _ _ _ => hb, ?_⟩
    show spec_Cheapest_L15 n _ _ st.1 (s.Costs.length : Int) s st.2 = _
    unfold spec_Cheapest_L15
    rw [decide_eq_false (by omega), cond_false]
theorem prog_fix {s : SSea} {fr : Nat} {c0 c : List Int} (h : Prog s fr c0 (fun _ _ => True) false c) : c = c0 ∧ Fix s c := by
  obtain ⟨e, h2⟩ := h.same rfl
  refine ⟨e, ?_⟩
  rw [e]
  exact fun a b ha hb h0 hbe hc => h2 a b trivial ha hb h0 hbe hc
theorem spec_rounds {R : Type} {n : Nat} (kx2 : List Int → Option R) {s : SSea} {fr : Nat} (hs : SeaO s) (hn : 1000000000 < n) : ∀ m fu c, mu c ≤ m → m + 2 < fu → Lab s fr c →
    ∃ c', Lab s fr c' ∧ Fix s c' ∧ loopN (fun (x : Bool × List Int) J' => spec_Cheapest_L12 n kx2 (fun again98 out99 => J' (again98, out99)) x.1 s x.2) fu (true, c) = kx2 c' := by
  have hstep : ∀ (J : Bool → List Int → Option R) c, Lab s fr c → ∃ ag' c', Prog s fr c (fun _ _ => True) ag' c' ∧ spec_Cheapest_L12 n kx2 J true s c = J ag' c' := by
    intro J c h
    obtain ⟨ag', c', h1, h2⟩ := spec_pass (n := n) (fun again92 out93 => J again92 out93) hs hn h
    refine ⟨ag', c', h1, ?_⟩
    unfold spec_Cheapest_L12
    rw [cond_true]
    exact h2
  have stop : ∀ fu c', 0 < fu → loopN (fun (x : Bool × List Int) J' => spec_Cheapest_L12 n kx2 (fun again98 out99 => J' (again98, out99)) x.1 s x.2) fu (false, c') = kx2 c' := fun fu c' hfu => (loopN_step hfu _).trans rfl
  intro m
  induction m with
  | zero =>
    intro fu c hm hfu h
    obtain ⟨ag', c', h1, h2⟩ := hstep (fun a b => loopN (fun (x : Bool × List Int) J' => spec_Cheapest_L12 n kx2 (fun again98 out99 => J' (again98, out99)) x.1 s x.2) (fu - 1) (a, b)) c h
    cases ag' with
    | true => have := h1.less rfl; omega
    | false =>
      refine ⟨c', h1.lab, (prog_fix h1).2, ?_⟩
      exact (loopN_step (by omega) _).trans (h2.trans (stop _ _ (by omega)))
  | succ m ih =>
    intro fu c hm hfu h
    obtain ⟨ag', c', h1, h2⟩ := hstep (fun a b => loopN (fun (x : Bool × List Int) J' => spec_Cheapest_L12 n kx2 (fun again98 out99 => J' (again98, out99)) x.1 s x.2) (fu - 1) (a, b)) c h
    cases ag' with
    | true =>
      have := h1.less rfl
      obtain ⟨c2, g1, g2, g3⟩ := ih (fu - 1) c' (by omega) (by omega) h1.lab
      exact ⟨c2, g1, g2, (loopN_step (by omega) _).trans (h2.trans g3)⟩
    | false =>
      refine ⟨c', h1.lab, (prog_fix h1).2, ?_⟩
      exact (loopN_step (by omega) _).trans (h2.trans (stop _ _ (by omega)))
/-! ### The program -/
theorem impl_push {R : Type} {n : Nat} (kx6 : Bool → List Int → Option R) {s : SSea} {fr : Nat} {c0 : List Int} (hs : SeaO s) (hn : 1000000000 < n) {E : Nat → Nat → Prop} {ag : Bool} {c : List Int} (h : Prog s fr c0 E ag c) {p : Nat} (hp : p < s.Costs.length) (h0 : 0 ≤ g0 c p) (t39 t40 : Int) :
    ∃ ag' c', Prog s fr c0 (fun a b => E a b ∨ a = p) ag' c' ∧ loopN (fun (x : Bool × Int × List Int) J' => impl_Cheapest_L20 n kx6 (fun again95 t96 t97 => J' (again95, t96, t97)) x.1 (g0 c p) t39 t40 ((nextL s p).length : Int) x.2.1 s x.2.2 (nextL s p)) n (ag, (0 : Int), c) = kx6 ag' c' := by
  have hhi := hs.hi
  have hnl : (nextL s p).length ≤ 4 := by
    unfold nextL
    simp only [List.length_append]
    split <;> split <;> split <;> split <;> simp
  refine loop_runS (S := Bool × List Int) (X := Bool × Int × List Int) (enc := fun k st => (st.1, k, st.2)) (len := (nextL s p).length) (I := fun k st => g0 st.2 p = g0 c p ∧ Prog s fr c0 (fun a b => E a b ∨ (a = p ∧ ∃ j, j < k ∧ g0 (nextL s p) j = (b : Int))) st.1 st.2)
      (Q := fun r => ∃ ag' c', Prog s fr c0 (fun a b => E a b ∨ a = p) ag' c' ∧ r = kx6 ag' c') (fun k st J hk hi => ?_) (fun st J hi => ?_) (by omega) (s0 := (ag, c)) ⟨rfl, h.weak fun hag a b hE _ _ _ _ _ => hE.elim id fun ⟨_, j, hj, _⟩ => absurd hj (Nat.not_lt_zero _)⟩
  · obtain ⟨hd, hi⟩ := hi
    have hl := hi.lab.len
    obtain ⟨q, hq1, hq2, hq3⟩ := (next_mem hs hp).1 (getD_mem (d := (0 : Int)) hk)
    have hqp : q ≠ p := fun e => beside_ne hq3 e.symm
    refine ⟨(bif relB s st.2 p q then true else st.1, bif relB s st.2 p q then st.2.set q (g0 st.2 p + g0 s.Costs q) else st.2), ⟨?_, ?_⟩, ?_⟩
    · show g0 (bif relB s st.2 p q then st.2.set q (g0 st.2 p + g0 s.Costs q) else st.2) p = _
      cases relB s st.2 p q with
      | true => rw [cond_true, set_get, if_neg (fun x => hqp x.1)]; exact hd
      | false => exact hd
    · refine (hi.step hs hp hq2).weak fun hag a b hE ha hb hbe hc hf => ?_
      rcases hE with hE | ⟨h1, j, hj, hjb⟩
      · exact .inl (.inl hE)
      · by_cases e : j = k
        · subst e
          refine .inr ⟨h1, ?_⟩
          have : g0 (nextL s p) j = (q : Int) := hq1
          omega
        · exact .inl (.inr ⟨h1, j, by omega, hjb⟩)
    · show impl_Cheapest_L20 n kx6 _ st.1 (g0 c p) t39 t40 ((nextL s p).length : Int) (k : Int) s st.2 (nextL s p) = _
      unfold impl_Cheapest_L20 impl_Cheapest_k0
      have hw := w_sum hs hi.lab p q
      rw [hd] at hw
      have eq1 : st.2.getD q 0 = g0 st.2 q := rfl
      have ec : s.Costs.getD q 0 = g0 s.Costs q := rfl
      simp only [Int.ofNat_lt, hk, decide_true, cond_true, ix_nat hk, Int.toNat_natCast, chk_true, hq1, ix_nat hq2, bd_eq, ec, ix_nat (show q < st.2.length by omega), chk_dec (show q < st.2.length by omega), eq1, hw, w64_succ (show k < 9223372036854775807 by omega)]
      unfold relB lowB
      rw [hq3, hd, decide_eq_true h0]
      show (bif decide (g0 s.Costs q > 0) then (bif decide (g0 st.2 q < 0) then _ else (bif decide (g0 st.2 q > g0 c p + g0 s.Costs q) then _ else _)) else _) = _
      have e1 : decide (g0 s.Costs q > 0) = decide (0 < g0 s.Costs q) := rfl
      have e2 : decide (g0 st.2 q > g0 c p + g0 s.Costs q) = decide (g0 c p + g0 s.Costs q < g0 st.2 q) := rfl
      rw [e1, e2]
      cases decide (0 < g0 s.Costs q) <;> cases decide (g0 st.2 q < 0) <;> cases decide (g0 c p + g0 s.Costs q < g0 st.2 q) <;> rfl
  · obtain ⟨hd, hi⟩ := hi
    refine ⟨st.1, st.2, hi.weak fun hag a b hE ha hb hbe hc hf => ?_, ?_⟩
    · rcases hE with hE | rfl
      · exact .inl hE
      · obtain ⟨j, hj, hjb⟩ := List.getElem_of_mem ((next_mem hs ha).2 ⟨b, rfl, hb, hbe⟩)
        exact .inr ⟨rfl, j, hj, by unfold g0; rw [getD_eq hj]; exact hjb⟩
    · show impl_Cheapest_L20 n kx6 _ st.1 (g0 c p) t39 t40 ((nextL s p).length : Int) ((nextL s p).length : Int) s st.2 (nextL s p) = _
      unfold impl_Cheapest_L20
      simp only [Int.lt_irrefl, decide_false, cond_false]
theorem impl_pass {R : Type} {n : Nat} (kx4 : Bool → List Int → Option R) {s : SSea} {fr : Nat} {c0 : List Int} (hs : SeaO s) (hn : 1000000000 < n) (h : Lab s fr c0) :
    ∃ ag' c', Prog s fr c0 (fun _ _ => True) ag' c' ∧ loopN (fun (x : Bool × Int × List Int) J' => impl_Cheapest_L16 n kx4 (fun again113 t114 t115 => J' (again113, t114, t115)) x.1 (c0.length : Int) x.2.1 s x.2.2) n (false, (0 : Int), c0) = kx4 ag' c' := by
  have hhi := hs.hi
  have hl0 := h.len
  refine loop_runS (S := Bool × List Int) (X := Bool × Int × List Int) (enc := fun k st => (st.1, k, st.2)) (len := s.Costs.length) (I := fun k st => Prog s fr c0 (fun a b => a < k) st.1 st.2)
      (Q := fun r => ∃ ag' c', Prog s fr c0 (fun _ _ => True) ag' c' ∧ r = kx4 ag' c') (fun k st J hk hi => ?_) (fun st J hi => ?_) (by omega) (s0 := (false, c0)) ⟨h, fun _ => ⟨rfl, fun a b x => absurd x (Nat.not_lt_zero _)⟩, fun x => by cases x⟩
  · have hl := hi.lab.len
    have ek : st.2.getD k 0 = g0 st.2 k := rfl
    by_cases hneg : g0 st.2 k < 0
    · refine ⟨st, hi.weak fun hag a b hE _ _ _ _ hf => ?_, ?_⟩
      · by_cases e : a = k
        · exfalso
          subst e
          rw [← (hi.same hag).1] at hf
          omega
        · omega
      · show impl_Cheapest_L16 n kx4 _ st.1 (c0.length : Int) (k : Int) s st.2 = _
        unfold impl_Cheapest_L16
        rw [decide_eq_true (show (k : Int) < (c0.length : Int) by omega), cond_true, ix_nat (show k < st.2.length by omega), Int.toNat_natCast, chk_dec (show k < st.2.length by omega), ek, decide_eq_true hneg, cond_true, w64_succ (by omega)]
    · obtain ⟨ag', c', h1, h2⟩ := impl_push (n := n) (fun again90 t91 => J (again90, ((k + 1 : Nat) : Int), t91)) hs hn hi hk (by omega) (c0.length : Int) (k : Int)
      refine ⟨(ag', c'), h1.weak fun hag a b hE _ _ _ _ _ => ?_, ?_⟩
      · by_cases e : a = k
        · exact .inr e
        · exact .inl (by omega)
      · show impl_Cheapest_L16 n kx4 _ st.1 (c0.length : Int) (k : Int) s st.2 = _
        unfold impl_Cheapest_L16 impl_Cheapest_k1
        rw [decide_eq_true (show (k : Int) < (c0.length : Int) by omega), cond_true, ix_nat (show k < st.2.length by omega), Int.toNat_natCast, chk_dec (show k < st.2.length by omega), ek, decide_eq_false hneg, cond_false, next_impl hs hk, Option.bind_some, w64_succ (by omega)]
        exact h2
  · have hl := hi.lab.len
    refine ⟨st.1, st.2, hi.weak fun hag a b _ ha _ _ _ _ => ha, ?_⟩
    show impl_Cheapest_L16 n _ _ st.1 (c0.length : Int) (s.Costs.length : Int) s st.2 = _
    unfold impl_Cheapest_L16
    rw [decide_eq_false (by omega), cond_false]
end Go.Sm
end

section
set_option linter.unusedSimpArgs false
set_option linter.deprecated false
set_option linter.unusedSectionVars false
set_option linter.unusedVariables false
set_option linter.unusedSimpArgs false
namespace Go.Sm
attribute [local irreducible] bd chk ix loopN
theorem impl_rounds {R : Type} {n : Nat} (kx2 : List Int → Option R) {s : SSea} {fr : Nat} (hs : SeaO s) (hn : 1000000000 < n) : ∀ m fu c, mu c ≤ m → m + 2 < fu → Lab s fr c →
    ∃ c', Lab s fr c' ∧ Fix s c' ∧ loopN (fun (x : Bool × List Int) J' => impl_Cheapest_L13 n kx2 (fun again117 out118 => J' (again117, out118)) x.1 s x.2) fu (true, c) = kx2 c' := by
  have hstep : ∀ (J : Bool → List Int → Option R) c, Lab s fr c → ∃ ag' c', Prog s fr c (fun _ _ => True) ag' c' ∧ impl_Cheapest_L13 n kx2 J true s c = J ag' c' := by
    intro J c h
    obtain ⟨ag', c', h1, h2⟩ := impl_pass (n := n) (fun again92 out93 => J again92 out93) hs hn h
    refine ⟨ag', c', h1, ?_⟩
    unfold impl_Cheapest_L13
    rw [cond_true]
    exact h2
  have stop : ∀ fu c', 0 < fu → loopN (fun (x : Bool × List Int) J' => impl_Cheapest_L13 n kx2 (fun again117 out118 => J' (again117, out118)) x.1 s x.2) fu (false, c') = kx2 c' := fun fu c' hfu => (loopN_step hfu _).trans rfl
  intro m
  induction m with
  | zero =>
    intro fu c hm hfu h
    obtain ⟨ag', c', h1, h2⟩ := hstep (fun a b => loopN (fun (x : Bool × List Int) J' => impl_Cheapest_L13 n kx2 (fun again117 out118 => J' (again117, out118)) x.1 s x.2) (fu - 1) (a, b)) c h
    cases ag' with
    | true => have := h1.less rfl; omega
    | false =>
      refine ⟨c', h1.lab, (prog_fix h1).2, ?_⟩
      exact (loopN_step (by omega) _).trans (h2.trans (stop _ _ (by omega)))
  | succ m ih =>
    intro fu c hm hfu h
    obtain ⟨ag', c', h1, h2⟩ := hstep (fun a b => loopN (fun (x : Bool × List Int) J' => impl_Cheapest_L13 n kx2 (fun again117 out118 => J' (again117, out118)) x.1 s x.2) (fu - 1) (a, b)) c h
    cases ag' with
    | true =>
      have := h1.less rfl
      obtain ⟨c2, g1, g2, g3⟩ := ih (fu - 1) c' (by omega) (by omega) h1.lab
      exact ⟨c2, g1, g2, (loopN_step (by omega) _).trans (h2.trans g3)⟩
    | false =>
      refine ⟨c', h1.lab, (prog_fix h1).2, ?_⟩
      exact (loopN_step (by omega) _).trans (h2.trans (stop _ _ (by omega)))
/-! ### Costs -/
def iniK (m k : Nat) : List Int := List.replicate k (-1) ++ List.replicate (m - k) 0
theorem iniK_len {m k : Nat} (h : k ≤ m) : (iniK m k).length = m := by
  unfold iniK
  rw [List.length_append, List.length_replicate, List.length_replicate]
  omega
theorem iniK_set {m k : Nat} (h : k < m) : (iniK m k).set k (-1) = iniK m (k + 1) := by
  unfold iniK
  have h1 : (List.replicate k (-1 : Int)).length = k := List.length_replicate
  rw [List.set_append_right _ _ (by omega), h1, Nat.sub_self, show m - k = (m - (k + 1)) + 1 by omega, List.replicate_succ, List.set_cons_zero, List.replicate_succ', List.append_assoc]
  rfl
theorem iniK_get (m p : Nat) : g0 (iniK m m) p = if p < m then -1 else 0 := by
  unfold g0 iniK
  rw [Nat.sub_self, List.replicate_zero, List.append_nil]
  by_cases h : p < m
  · rw [if_pos h, getD_eq (by rw [List.length_replicate]; exact h), List.getElem_replicate]
  · rw [if_neg h, List.getD, List.getElem?_eq_none (by rw [List.length_replicate]; omega)]; rfl
theorem lab_start {s : SSea} {fr : Nat} (hfr : fr < s.Costs.length) : Lab s fr ((iniK s.Costs.length s.Costs.length).set fr 0) := by
  have hl : (iniK s.Costs.length s.Costs.length).length = s.Costs.length := iniK_len (Nat.le_refl _)
  have hg : ∀ p, g0 ((iniK s.Costs.length s.Costs.length).set fr 0) p = if fr = p then 0 else if p < s.Costs.length then -1 else 0 := by
    intro p
    rw [set_get, hl]
    by_cases e : fr = p
    · rw [if_pos ⟨e, by omega⟩, if_pos e]
    · rw [if_neg (fun x => e x.1), if_neg e, iniK_get]
  refine ⟨by rw [List.length_set, hl], by rw [hg, if_pos rfl], fun p hp h => ?_, fun p => ?_, fun p => ?_⟩
  · rw [hg] at h ⊢
    by_cases e : fr = p
    · rw [if_pos e, ← e]; exact .start
    · rw [if_neg e, if_pos hp] at h; omega
  · rw [hg]
    split
    · omega
    · split <;> omega
  · rw [hg]
    split
    · omega
    · split <;> omega
theorem mu_le : ∀ c : List Int, (∀ x ∈ c, x ≤ 0) → mu c ≤ 200000 * c.length
  | [], _ => Nat.zero_le _
  | x :: c, h => by
    have ih := mu_le c fun y hy => h y (List.mem_cons_of_mem _ hy)
    have hx := h x List.mem_cons_self
    show wt x + mu c ≤ 200000 * (c.length + 1)
    have : wt x ≤ 200000 := by unfold wt; split <;> omega
    omega
theorem mu_start {s : SSea} (hs : SeaO s) {fr : Nat} (hfr : fr < s.Costs.length) : mu ((iniK s.Costs.length s.Costs.length).set fr 0) ≤ 28800000 := by
  have hl : (iniK s.Costs.length s.Costs.length).length = s.Costs.length := iniK_len (Nat.le_refl _)
  have h := mu_le ((iniK s.Costs.length s.Costs.length).set fr 0) fun x hx => by
    rcases List.mem_or_eq_of_mem_set hx with h | h
    · unfold iniK at h
      rw [List.mem_append] at h
      rcases h with h | h
      · have := List.eq_of_mem_replicate h; omega
      · have := List.eq_of_mem_replicate h; omega
    · omega
  rw [List.length_set, hl] at h
  have := hs.hi
  omega
def CRes (s : SSea) (fr : Nat) (c : List Int) : Prop := (g0 s.Costs fr = 0 ∧ c = iniK s.Costs.length s.Costs.length) ∨ (g0 s.Costs fr ≠ 0 ∧ Lab s fr c ∧ Fix s c)
theorem cres_uniq {s : SSea} {fr : Nat} {c c' : List Int} (h : CRes s fr c) (h' : CRes s fr c') : c = c' := by
  rcases h with ⟨a1, a2⟩ | ⟨a1, a2, a3⟩
  · rcases h' with ⟨b1, b2⟩ | ⟨b1, b2, b3⟩
    · rw [a2, b2]
    · exact absurd a1 b1
  · rcases h' with ⟨b1, b2⟩ | ⟨b1, b2, b3⟩
    · exact absurd b1 a1
    · exact lab_uniq a2 a3 b2 b3
theorem cheap_spec {n : Nat} (s : SSea) (fr : Nat) (hsea : seaB s = true) (hfr : fr < s.Costs.length) (hc : s.Costs.length ≤ 1048576) (hsh : s.Shut.length ≤ 1048576) (hn : 1000000000 < n) : ∃ c, CRes s fr c ∧ spec_Cheapest n s (fr : Int) = some (c, true) := by
  have hs := seaO hsea
  have hhi := hs.hi
  unfold spec_Cheapest
  rw [sea_spec s hc hsh hn, hsea, Option.bind_some, place_spec hs, Option.bind_some, show placeB s (fr : Int) = true from decide_eq_true (by omega)]
  simp only [Bool.not_true, cond_false]
  unfold spec_Cheapest_k4
  rw [chk_dec (by omega), chk_dec (by omega), chk_dec (by omega), Int.toNat_natCast]
  refine loop_runS (S := List Int) (X := Int × List Int) (enc := fun k st => (k, st)) (len := s.Costs.length) (I := fun k st => st = iniK s.Costs.length k) (Q := fun r => ∃ c, CRes s fr c ∧ r = some (c, true)) (fun k st J hk hi => ?_) (fun st J hi => ?_) (by omega) (s0 := _) rfl
  · refine ⟨_, rfl, ?_⟩
    have hsl : st.length = s.Costs.length := by rw [hi, iniK_len (by omega)]
    show spec_Cheapest_L5 n _ _ (fr : Int) (k : Int) s st = _
    unfold spec_Cheapest_L5
    rw [decide_eq_true (show (k : Int) < (st.length : Int) by omega), cond_true, ix_nat (by omega), Int.toNat_natCast, chk_dec (by omega), bd_eq, w64_succ (by omega), hi, iniK_set hk]
  · have hsl : st.length = s.Costs.length := by rw [hi, iniK_len (by omega)]
    show ∃ c, CRes s fr c ∧ spec_Cheapest_L5 n _ _ (fr : Int) (s.Costs.length : Int) s st = _
    unfold spec_Cheapest_L5
    rw [decide_eq_false (by omega), cond_false]
    dsimp only
    rw [ix_nat hfr, show s.Costs.getD fr 0 = g0 s.Costs fr from rfl]
    by_cases hz : g0 s.Costs fr = 0
    · rw [decide_eq_true hz, cond_true]
      exact ⟨st, .inl ⟨hz, hi⟩, rfl⟩
    · rw [decide_eq_false hz, cond_false]
      unfold spec_Cheapest_k3
      rw [ix_nat (by omega), Int.toNat_natCast, chk_dec (by omega), bd_eq, hi]
      obtain ⟨c, g1, g2, g3⟩ := spec_rounds (n := n) (fun out97 => some (out97, true)) hs hn 28800000 n _ (mu_start hs hfr) (by omega) (lab_start hfr)
      exact ⟨c, .inr ⟨hz, g1, g2⟩, g3⟩
theorem cheap_impl {n : Nat} (s : SSea) (fr : Nat) (hsea : seaB s = true) (hfr : fr < s.Costs.length) (hc : s.Costs.length ≤ 1048576) (hsh : s.Shut.length ≤ 1048576) (hn : 1000000000 < n) : ∃ c, CRes s fr c ∧ impl_Cheapest n s (fr : Int) = some (c, true) := by
  have hs := seaO hsea
  have hhi := hs.hi
  unfold impl_Cheapest
  rw [sea_impl s hc hsh hn, hsea, Option.bind_some, place_impl hs, Option.bind_some, show placeB s (fr : Int) = true from decide_eq_true (by omega)]
  simp only [Bool.not_true, cond_false]
  unfold impl_Cheapest_k3
  rw [chk_dec (by omega), chk_dec (by omega), chk_dec (by omega), Int.toNat_natCast, List.length_replicate]
  refine loop_runS (S := List Int) (X := Int × List Int) (enc := fun k st => (k, st)) (len := s.Costs.length) (I := fun k st => st = iniK s.Costs.length k) (Q := fun r => ∃ c, CRes s fr c ∧ r = some (c, true)) (fun k st J hk hi => ?_) (fun st J hi => ?_) (by omega) (s0 := _) rfl
  · refine ⟨_, rfl, ?_⟩
    have hsl : st.length = s.Costs.length := by rw [hi, iniK_len (by omega)]
    show impl_Cheapest_L5 n _ _ (fr : Int) (s.Costs.length : Int) (k : Int) s st = _
    unfold impl_Cheapest_L5
    rw [decide_eq_true (show (k : Int) < (s.Costs.length : Int) by omega), cond_true, ix_nat (by omega), Int.toNat_natCast, chk_dec (by omega), bd_eq, w64_succ (by omega), hi, iniK_set hk]
  · have hsl : st.length = s.Costs.length := by rw [hi, iniK_len (by omega)]
    show ∃ c, CRes s fr c ∧ impl_Cheapest_L5 n _ _ (fr : Int) (s.Costs.length : Int) (s.Costs.length : Int) s st = _
    unfold impl_Cheapest_L5
    rw [decide_eq_false (by omega), cond_false]
    dsimp only
    rw [ix_nat hfr, show s.Costs.getD fr 0 = g0 s.Costs fr from rfl]
    by_cases hz : g0 s.Costs fr = 0
    · rw [decide_eq_true hz, cond_true]
      exact ⟨st, .inl ⟨hz, hi⟩, rfl⟩
    · rw [decide_eq_false hz, cond_false]
      unfold impl_Cheapest_k2
      rw [ix_nat (by omega), Int.toNat_natCast, chk_dec (by omega), bd_eq, hi]
      obtain ⟨c, g1, g2, g3⟩ := impl_rounds (n := n) (fun out97 => some (out97, true)) hs hn 28800000 n _ (mu_start hs hfr) (by omega) (lab_start hfr)
      exact ⟨c, .inr ⟨hz, g1, g2⟩, g3⟩
/-! ### The way back -/
def predB (s : SSea) (c : List Int) (p q : Nat) : Bool := decide (0 ≤ g0 c q) && (besideB s p q && decide (g0 c q + g0 s.Costs p = g0 c p))
def prevO (s : SSea) (c : List Int) (p : Nat) : Option Nat := (List.range s.Costs.length).find? (predB s c p)
theorem prev_some {s : SSea} {fr : Nat} {c : List Int} (h : Lab s fr c) (hf : Fix s c) {p : Nat} (hp : p < s.Costs.length) (h0 : 0 ≤ g0 c p) (hne : p ≠ fr) :
    ∃ q, prevO s c p = some q ∧ q < s.Costs.length ∧ predB s c p q = true ∧ (∀ j, j < q → predB s c p j = false) ∧ 0 < g0 s.Costs p := by
  have hw := h.way p hp h0
  have key : ∃ a, a < s.Costs.length ∧ predB s c p a = true ∧ 0 < g0 s.Costs p := by
    generalize hd : g0 c p = d at hw
    cases hw with
    | start => exact absurd rfl hne
    | step hw ha hb hbe hc =>
      rename_i a d
      obtain ⟨l1, l2⟩ := least h hf hw
      have l3 := hf a p ha hb l1 hbe hc
      unfold lowB at l3
      rw [Bool.or_eq_false_iff, decide_eq_false_iff_not, decide_eq_false_iff_not] at l3
      refine ⟨a, ha, ?_, hc⟩
      unfold predB
      rw [decide_eq_true l1, beside_comm s p a, hbe, decide_eq_true (by omega)]
      rfl
  obtain ⟨a, ha, hpa, hcp⟩ := key
  rcases find_range (predB s c p) s.Costs.length with ⟨_, h2⟩ | ⟨q, h1, h2, h3, h4⟩
  · rw [h2 a ha] at hpa; cases hpa
  · exact ⟨q, h1, h2, h3, h4, hcp⟩
theorem predB_of {s : SSea} {c : List Int} {p q : Nat} (h : predB s c p q = true) : 0 ≤ g0 c q ∧ besideB s p q = true ∧ g0 c q + g0 s.Costs p = g0 c p := by
  unfold predB at h
  rw [Bool.and_eq_true, Bool.and_eq_true] at h
  exact ⟨of_decide_eq_true h.1, h.2.1, of_decide_eq_true h.2.2⟩
def pathL (s : SSea) (c : List Int) (fr : Nat) : Nat → Nat → List Int → List Int
  | 0, _, out => out
  | m + 1, p, out => bif decide (p = fr) then out else match prevO s c p with
    | some q => pathL s c fr m q ((q : Int) :: out)
    | none => out
theorem spec_back {R : Type} {n : Nat} (kx2 : Int → Option R) {s : SSea} {fr : Nat} {c : List Int} (hs : SeaO s) (h : Lab s fr c) {p q : Nat} (hp : p < s.Costs.length) (hq : prevO s c p = some q) (f15 : Int) (o20 : List Int) (hn : 1000000000 < n) :
    loopN (fun (x : Int) J' => spec_WayOf_L8 n kx2 J' f15 (p : Int) x s c o20) n (0 : Int) = kx2 (q : Int) := by
  have hl := h.len
  have hhi := hs.hi
  rw [loop_find (p := predB s c p) (len := s.Costs.length) (yes := fun k => kx2 (k : Int)) (no := kx2 (p : Int)) (by omega) (fun k J hk _ => ?_) (fun J _ => ?_) (by omega)]
  · unfold prevO at hq
    rw [hq]
  · unfold spec_WayOf_L8 spec_WayOf_k0 predB
    have hw := w_sum hs h k p
    have ek : c.getD k 0 = g0 c k := rfl
    have ep : c.getD p 0 = g0 c p := rfl
    have ec : s.Costs.getD p 0 = g0 s.Costs p := rfl
    have hw2 : w64 (g0 c k + g0 s.Costs p) = g0 c k + g0 s.Costs p := hw
    simp only [decide_eq_true (show (k : Int) < (c.length : Int) by omega), cond_true, ix_nat (show k < c.length by omega), Int.toNat_natCast, chk_dec (show k < c.length by omega), ek, ep, ec, next_spec hs hp hk, Option.bind_some, ix_nat hp, bd_eq, hw2, ix_nat (show p < c.length by omega), chk_dec (show p < c.length by omega), w64_succ (show k < 9223372036854775807 by omega)]
    show (bif decide (0 ≤ g0 c k) then _ else _) = _
    cases decide (0 ≤ g0 c k) <;> cases besideB s p k <;> cases decide (g0 c k + g0 s.Costs p = g0 c p) <;> rfl
  · unfold spec_WayOf_L8
    rw [decide_eq_false (by omega), cond_false]
theorem next_sorted {s : SSea} (hs : SeaO s) {p : Nat} (hp : p < s.Costs.length) : (nextL s p).Pairwise (· ≤ ·) := by
  obtain ⟨a1, a2, a3, a4, a5⟩ := xy hs hp
  have hw := hs.w
  unfold nextL
  by_cases c1 : yO s p > 0 <;> by_cases c2 : xO s p > 0 <;> by_cases c3 : xO s p < s.Wide - 1 <;> by_cases c4 : yO s p < s.High - 1 <;>
    (first | rw [if_pos c1] | rw [if_neg c1]) <;> (first | rw [if_pos c2] | rw [if_neg c2]) <;> (first | rw [if_pos c3] | rw [if_neg c3]) <;> (first | rw [if_pos c4] | rw [if_neg c4]) <;>
    simp only [List.nil_append, List.append_nil, List.singleton_append, List.cons_append, List.pairwise_cons, List.mem_cons, List.not_mem_nil, or_false, forall_eq_or_imp, forall_eq, List.Pairwise.nil, and_true, true_and, false_implies, implies_true] <;> omega
theorem impl_back {R : Type} {n : Nat} (kx2 : Int → Option R) {s : SSea} {fr : Nat} {c : List Int} (hs : SeaO s) (h : Lab s fr c) {p q : Nat} (hp : p < s.Costs.length) (hql : q < s.Costs.length) (hqp : predB s c p q = true) (hmin : ∀ j, j < q → predB s c p j = false) (f16 : Int) (w22 : List Int) (hn : 1000000000 < n) :
    loopN (fun (x : Int) J' => impl_WayOf_L8 n kx2 J' f16 (p : Int) ((nextL s p).length : Int) x s c w22 (nextL s p)) n (0 : Int) = kx2 (q : Int) := by
  have hl := h.len
  have hhi := hs.hi
  have hnl : (nextL s p).length ≤ 4 := by
    unfold nextL
    simp only [List.length_append]
    split <;> split <;> split <;> split <;> simp
  have hz : ∀ k, k < (nextL s p).length → ∃ z : Nat, g0 (nextL s p) k = (z : Int) ∧ z < s.Costs.length ∧ besideB s p z = true := fun k hk => (next_mem hs hp).1 (getD_mem (d := (0 : Int)) hk)
  obtain ⟨r1, r2, r3⟩ := predB_of hqp
  rw [loop_find (p := fun k => predB s c p (g0 (nextL s p) k).toNat) (len := (nextL s p).length) (yes := fun k => kx2 (g0 (nextL s p) k)) (no := kx2 (p : Int)) (by omega) (fun k J hk _ => ?_) (fun J _ => ?_) (by omega)]
  · obtain ⟨j, hj, hjq⟩ := List.getElem_of_mem ((next_mem hs hp).2 ⟨q, rfl, hql, r2⟩)
    have hjg : g0 (nextL s p) j = (q : Int) := by unfold g0; rw [getD_eq hj]; exact hjq
    rcases find_range (fun k => predB s c p (g0 (nextL s p) k).toNat) (nextL s p).length with ⟨_, f2⟩ | ⟨k, f1, f2, f3, f4⟩
    · have := f2 j hj
      rw [hjg, Int.toNat_natCast, hqp] at this
      cases this
    · rw [f1]
      have hkj : k ≤ j := by
        by_cases e : k ≤ j
        · exact e
        · have := f4 j (by omega)
          rw [hjg, Int.toNat_natCast, hqp] at this
          cases this
      obtain ⟨z, z1, z2, z3⟩ := hz k f2
      rw [z1, Int.toNat_natCast] at f3
      have hqz : q ≤ z := by
        by_cases e : q ≤ z
        · exact e
        · rw [hmin z (by omega)] at f3; cases f3
      have hzq : z ≤ q := by
        by_cases e : k = j
        · rw [e, hjg] at z1; omega
        · have := (List.pairwise_iff_getElem.1 (next_sorted hs hp)) k j f2 hj (by omega)
          unfold g0 at z1
          rw [getD_eq f2] at z1
          rw [z1, hjq] at this
          omega
      have : z = q := by omega
      subst this
      dsimp only
      rw [z1]
  · obtain ⟨z, z1, z2, z3⟩ := hz k hk
    have hw2 : w64 (g0 c z + g0 s.Costs p) = g0 c z + g0 s.Costs p := w_sum hs h z p
    have z1' : (nextL s p).getD k 0 = (z : Int) := z1
    have ek : c.getD z 0 = g0 c z := rfl
    have ep : c.getD p 0 = g0 c p := rfl
    have ec : s.Costs.getD p 0 = g0 s.Costs p := rfl
    unfold impl_WayOf_L8 impl_WayOf_k0
    rw [z1]
    simp only [Int.toNat_natCast]
    unfold predB
    rw [z3]
    simp only [Int.ofNat_lt, hk, decide_true, cond_true, ix_nat hk, Int.toNat_natCast, chk_true, z1', ix_nat (show z < c.length by omega), chk_dec (show z < c.length by omega), ek, ep, ec, ix_nat hp, bd_eq, hw2, ix_nat (show p < c.length by omega), chk_dec (show p < c.length by omega), w64_succ (show k < 9223372036854775807 by omega)]
    show (bif decide (0 ≤ g0 c z) then _ else _) = _
    cases decide (0 ≤ g0 c z) <;> cases decide (g0 c z + g0 s.Costs p = g0 c p) <;> rfl
  · unfold impl_WayOf_L8
    simp only [Int.lt_irrefl, decide_false, cond_false]
end Go.Sm
end

section
set_option linter.unusedSimpArgs false
set_option linter.deprecated false
set_option linter.unusedSectionVars false
set_option linter.unusedVariables false
set_option linter.unusedSimpArgs false
namespace Go.Sm
attribute [local irreducible] bd chk ix loopN
theorem path_spec {R : Type} {n : Nat} (kx0 : List Int → Option R) {s : SSea} {fr : Nat} {c : List Int} (hs : SeaO s) (h : Lab s fr c) (hf : Fix s c) (hn : 1000000000 < n) : ∀ (m p : Nat) (out : List Int) (fu : Nat), p < s.Costs.length → 0 ≤ g0 c p → (g0 c p).toNat < m → m < fu → out.length + (g0 c p).toNat ≤ 200000 →
    loopN (fun (x : Int × List Int) J' => spec_WayOf_L6 n kx0 (fun p45 out46 => J' (p45, out46)) (fr : Int) x.1 s c x.2) fu ((p : Int), out) = kx0 (pathL s c fr m p out)
  | 0, p, out, fu, _, _, hm, _, _ => absurd hm (Nat.not_lt_zero _)
  | m + 1, p, out, fu, hp, h0, hm, hfu, hlen => by
    by_cases e : p = fr
    · refine (loopN_step (by omega) _).trans ?_
      show spec_WayOf_L6 n kx0 _ (fr : Int) (p : Int) s c out = _
      unfold spec_WayOf_L6 pathL
      rw [decide_eq_true (show (p : Int) = (fr : Int) by omega), decide_eq_true e]
      rfl
    · obtain ⟨q, q1, q2, q3, q4, q5⟩ := prev_some h hf hp h0 e
      obtain ⟨r1, r2, r3⟩ := predB_of q3
      have hstep : ∀ J : Int → List Int → Option R, spec_WayOf_L6 n kx0 J (fr : Int) (p : Int) s c out = J (q : Int) ((q : Int) :: out) := by
        intro J
        unfold spec_WayOf_L6
        rw [decide_eq_false (show ¬ (p : Int) = (fr : Int) by omega), Bool.not_false, cond_true, spec_back _ hs h hp q1 _ _ hn]
        show chk (decide (((q : Int) :: out).length * 8 ≤ 140737488355328)) _ = _
        rw [chk_dec (by rw [List.length_cons]; omega)]
        rfl
      refine (loopN_step (by omega) _).trans ((hstep _).trans ?_)
      unfold pathL
      rw [decide_eq_false e, q1]
      exact path_spec kx0 hs h hf hn m q _ (fu - 1) q2 r1 (by omega) (by omega) (by rw [List.length_cons]; omega)
theorem path_impl {R : Type} {n : Nat} (kx0 : List Int → Option R) {s : SSea} {fr : Nat} {c : List Int} (hs : SeaO s) (h : Lab s fr c) (hf : Fix s c) (hn : 1000000000 < n) : ∀ (m p : Nat) (out : List Int) (fu : Nat), p < s.Costs.length → 0 ≤ g0 c p → (g0 c p).toNat < m → m < fu → out.length + (g0 c p).toNat ≤ 200000 →
    loopN (fun (x : Int × List Int) J' => impl_WayOf_L6 n kx0 (fun p55 way56 => J' (p55, way56)) (fr : Int) x.1 s c x.2) fu ((p : Int), out.reverse) = kx0 (pathL s c fr m p out).reverse
  | 0, p, out, fu, _, _, hm, _, _ => absurd hm (Nat.not_lt_zero _)
  | m + 1, p, out, fu, hp, h0, hm, hfu, hlen => by
    by_cases e : p = fr
    · refine (loopN_step (by omega) _).trans ?_
      show impl_WayOf_L6 n kx0 _ (fr : Int) (p : Int) s c out.reverse = _
      unfold impl_WayOf_L6 pathL
      rw [decide_eq_true (show (p : Int) = (fr : Int) by omega), decide_eq_true e]
      rfl
    · obtain ⟨q, q1, q2, q3, q4, q5⟩ := prev_some h hf hp h0 e
      obtain ⟨r1, r2, r3⟩ := predB_of q3
      have hstep : ∀ J : Int → List Int → Option R, impl_WayOf_L6 n kx0 J (fr : Int) (p : Int) s c out.reverse = J (q : Int) ((q : Int) :: out).reverse := by
        intro J
        unfold impl_WayOf_L6
        rw [decide_eq_false (show ¬ (p : Int) = (fr : Int) by omega), Bool.not_false, cond_true, next_impl hs hp, Option.bind_some, impl_back _ hs h hp q2 q3 q4 _ _ hn, List.reverse_cons]
        rw [chk_dec (by rw [List.length_append, List.length_reverse, List.length_singleton]; omega)]
      refine (loopN_step (by omega) _).trans ((hstep _).trans ?_)
      unfold pathL
      rw [decide_eq_false e, q1]
      exact path_impl kx0 hs h hf hn m q _ (fu - 1) q2 r1 (by omega) (by omega) (by rw [List.length_cons]; omega)
theorem path_len {s : SSea} {fr : Nat} {c : List Int} (hs : SeaO s) (h : Lab s fr c) (hf : Fix s c) : ∀ (m p : Nat) (out : List Int), p < s.Costs.length → 0 ≤ g0 c p → (g0 c p).toNat < m → out.length + (g0 c p).toNat ≤ 200000 → 0 < out.length → (pathL s c fr m p out).length ≤ 200000 ∧ 0 < (pathL s c fr m p out).length
  | 0, p, out, _, _, hm, _, _ => absurd hm (Nat.not_lt_zero _)
  | m + 1, p, out, hp, h0, hm, hlen, hpos => by
    unfold pathL
    by_cases e : p = fr
    · rw [decide_eq_true e]
      exact ⟨by rw [cond_true]; omega, hpos⟩
    · obtain ⟨q, q1, q2, q3, q4, q5⟩ := prev_some h hf hp h0 e
      obtain ⟨r1, r2, r3⟩ := predB_of q3
      rw [decide_eq_false e, q1]
      exact path_len hs h hf m q _ q2 r1 (by omega) (by rw [List.length_cons]; omega) (by rw [List.length_cons]; omega)
/-! ### Turned round in place -/
theorem rev_loop {R : Type} {n : Nat} (kx4 : List Int → Option R) (w : List Int) (hw : 0 < w.length) (hl : w.length ≤ 1048576) (hn : 1000000000 < n) :
    loopN (fun (x : Int × Int × List Int) J' => impl_WayOf_L15 n kx4 (fun i52 k53 way54 => J' (i52, k53, way54)) x.1 x.2.1 x.2.2) n ((0 : Int), ((w.length : Int) - 1), w) = kx4 w.reverse := by
  have key := loop_runS (R := R) (S := List Int) (X := Int × Int × List Int) (enc := fun k l => (k, ((w.length : Int) - 1) - k, l)) (len := w.length / 2)
    (b := fun x J' => impl_WayOf_L15 n kx4 (fun i52 k53 way54 => J' (i52, k53, way54)) x.1 x.2.1 x.2.2)
    (I := fun i l => l.length = w.length ∧ ∀ j, j < w.length → g0 l j = if j < i ∨ w.length - 1 - j < i then g0 w (w.length - 1 - j) else g0 w j) (Q := fun r => r = kx4 w.reverse) (fun i l J hi hI => ?_) (fun l J hI => ?_) (n := n) (by omega) (s0 := w) ⟨rfl, fun j hj => by rw [if_neg (by omega)]⟩
  · rw [Int.sub_zero] at key
    exact key
  · obtain ⟨h1, h2⟩ := hI
    have e1 : ((w.length : Int) - 1) - (i : Int) = ((w.length - 1 - i : Nat) : Int) := by omega
    refine ⟨(l.set i (l.getD (w.length - 1 - i) 0)).set (w.length - 1 - i) (l.getD i 0), ⟨by rw [List.length_set, List.length_set]; exact h1, fun j hj => ?_⟩, ?_⟩
    · rw [set_get, set_get, List.length_set]
      by_cases c1 : w.length - 1 - i = j
      · rw [if_pos ⟨c1, by omega⟩, if_pos (by omega)]
        have := h2 i (by omega)
        rw [if_neg (by omega)] at this
        rw [show w.length - 1 - j = i by omega]
        exact this
      · rw [if_neg (fun x => c1 x.1)]
        by_cases c2 : i = j
        · rw [if_pos ⟨c2, by omega⟩, if_pos (by omega)]
          have := h2 (w.length - 1 - i) (by omega)
          rw [if_neg (by omega)] at this
          rw [← c2]
          exact this
        · rw [if_neg (fun x => c2 x.1), h2 j hj]
          by_cases c3 : j < i ∨ w.length - 1 - j < i
          · rw [if_pos c3, if_pos (by omega)]
          · rw [if_neg c3, if_neg (by omega)]
    · show impl_WayOf_L15 n kx4 _ (i : Int) (((w.length : Int) - 1) - (i : Int)) l = _
      unfold impl_WayOf_L15 impl_WayOf_k1
      have e2 : w64 (((w.length - 1 - i : Nat) : Int) - 1) = ((w.length : Int) - 1) - ((i + 1 : Nat) : Int) := by rw [w64_id (by omega) (by omega)]; omega
      rw [e1]
      simp only [decide_eq_true (show (i : Int) < ((w.length - 1 - i : Nat) : Int) by omega), cond_true, ix_nat (show w.length - 1 - i < l.length by omega), ix_nat (show i < l.length by omega), Int.toNat_natCast, chk_dec (show w.length - 1 - i < l.length by omega), chk_dec (show i < l.length by omega), bd_eq, List.length_set, e2, w64_succ (show i < 9223372036854775807 by omega)]
  · obtain ⟨h1, h2⟩ := hI
    show impl_WayOf_L15 n kx4 _ ((w.length / 2 : Nat) : Int) (((w.length : Int) - 1) - ((w.length / 2 : Nat) : Int)) l = _
    unfold impl_WayOf_L15
    rw [decide_eq_false (by omega), cond_false]
    congr 1
    apply List.ext_getElem
    · rw [List.length_reverse]; exact h1
    · intro j hj1 hj2
      have := h2 j (by omega)
      unfold g0 at this
      rw [getD_eq hj1] at this
      rw [this, List.getElem_reverse]
      by_cases c : j < w.length / 2 ∨ w.length - 1 - j < w.length / 2
      · rw [if_pos c, getD_eq (by omega)]
      · rw [if_neg c, getD_eq (by omega)]
        congr 1
        omega
/-! ### Ways -/
theorem own_int {n : Nat} (l : List Int) (h : l.length ≤ 1048576) : impl_own_int n l = some l := by
  unfold impl_own_int
  rw [chk_dec (by omega), chk_dec (by omega), chk_dec (by omega)]
theorem way_both {n : Nat} (s : SSea) (fr to : Int) (hc : s.Costs.length ≤ 1048576) (hsh : s.Shut.length ≤ 1048576) (hn : 1000000000 < n) : ∃ R : List Int × Bool, R.1.length ≤ 1048576 ∧ spec_WayOf n s fr to = some R ∧ impl_WayOf n s fr to = some R := by
  cases hsea : seaB s with
  | false =>
    refine ⟨([], false), Nat.zero_le _, ?_, ?_⟩
    · unfold spec_WayOf spec_Cheapest
      rw [sea_spec s hc hsh hn, hsea]; rfl
    · unfold impl_WayOf impl_Cheapest
      rw [sea_impl s hc hsh hn, hsea]; rfl
  | true =>
    have hs := seaO hsea
    have hhi := hs.hi
    by_cases hfr : 0 ≤ fr ∧ fr ≤ (s.Costs.length : Int) - 1
    · obtain ⟨f, rfl⟩ : ∃ f : Nat, fr = (f : Int) := ⟨fr.toNat, by omega⟩
      have hfl : f < s.Costs.length := by omega
      obtain ⟨c, g1, g2⟩ := cheap_spec (n := n) s f hsea hfl hc hsh hn
      obtain ⟨c', g1', g2'⟩ := cheap_impl (n := n) s f hsea hfl hc hsh hn
      have := cres_uniq g1 g1'
      subst this
      by_cases hto : 0 ≤ to ∧ to ≤ (s.Costs.length : Int) - 1
      · obtain ⟨t, rfl⟩ : ∃ t : Nat, to = (t : Int) := ⟨to.toNat, by omega⟩
        have htl : t < s.Costs.length := by omega
        have hcl : c.length = s.Costs.length := by
          rcases g1 with ⟨_, a⟩ | ⟨_, a, _⟩
          · rw [a, iniK_len (Nat.le_refl _)]
          · exact a.len
        have et : c.getD t 0 = g0 c t := rfl
        by_cases hneg : g0 c t < 0
        · refine ⟨([], false), Nat.zero_le _, ?_, ?_⟩
          · unfold spec_WayOf
            rw [g2, Option.bind_some]
            dsimp only
            rw [Bool.not_true, cond_false, place_spec hs, Option.bind_some, show placeB s (t : Int) = true from decide_eq_true (by omega), Bool.not_true, cond_false, ix_nat (by omega), Int.toNat_natCast, chk_dec (by omega), et, decide_eq_true hneg, cond_true]
          · unfold impl_WayOf
            rw [g2', Option.bind_some]
            dsimp only
            rw [Bool.not_true, cond_false, place_impl hs, Option.bind_some, show placeB s (t : Int) = true from decide_eq_true (by omega), Bool.not_true, cond_false, ix_nat (by omega), Int.toNat_natCast, chk_dec (by omega), et, decide_eq_true hneg, cond_true]
        · have hLF : Lab s f c ∧ Fix s c := by
            rcases g1 with ⟨_, a⟩ | ⟨_, a, b⟩
            · exfalso
              rw [a, iniK_get, if_pos htl] at hneg
              omega
            · exact ⟨a, b⟩
          obtain ⟨hL, hF⟩ := hLF
          have hle := hL.le hs t
          obtain ⟨pl1, pl2⟩ := path_len (fr := f) hs hL hF 200000 t [(t : Int)] htl (by omega) (by omega) (by rw [List.length_singleton]; omega) (by simp)
          refine ⟨(pathL s c f 200000 t [(t : Int)], true), by show (pathL s c f 200000 t [(t : Int)]).length ≤ _; omega, ?_, ?_⟩
          · unfold spec_WayOf
            rw [g2, Option.bind_some]
            dsimp only
            rw [Bool.not_true, cond_false, place_spec hs, Option.bind_some, show placeB s (t : Int) = true from decide_eq_true (by omega), Bool.not_true, cond_false, ix_nat (by omega), Int.toNat_natCast, chk_dec (by omega), et, decide_eq_false hneg, cond_false]
            exact path_spec _ hs hL hF hn 200000 t [(t : Int)] n htl (by omega) (by omega) (by omega) (by rw [List.length_singleton]; omega)
          · unfold impl_WayOf
            rw [g2', Option.bind_some]
            dsimp only
            rw [Bool.not_true, cond_false, place_impl hs, Option.bind_some, show placeB s (t : Int) = true from decide_eq_true (by omega), Bool.not_true, cond_false, ix_nat (by omega), Int.toNat_natCast, chk_dec (by omega), et, decide_eq_false hneg, cond_false]
            unfold impl_WayOf_k2
            refine (path_impl _ hs hL hF hn 200000 t [(t : Int)] n htl (by omega) (by omega) (by omega) (by rw [List.length_singleton]; omega)).trans ?_
            have hrl : (pathL s c f 200000 t [(t : Int)]).reverse.length = (pathL s c f 200000 t [(t : Int)]).length := List.length_reverse
            rw [bd_eq, w64_id (by omega) (by omega), rev_loop _ _ (by omega) (by omega) hn, List.reverse_reverse, own_int _ (by omega)]
            rfl
      · refine ⟨([], false), Nat.zero_le _, ?_, ?_⟩
        · unfold spec_WayOf
          rw [g2, Option.bind_some]
          dsimp only
          rw [Bool.not_true, cond_false, place_spec hs, Option.bind_some, show placeB s to = false from decide_eq_false hto]
          rfl
        · unfold impl_WayOf
          rw [g2', Option.bind_some]
          dsimp only
          rw [Bool.not_true, cond_false, place_impl hs, Option.bind_some, show placeB s to = false from decide_eq_false hto]
          rfl
    · refine ⟨([], false), Nat.zero_le _, ?_, ?_⟩
      · unfold spec_WayOf spec_Cheapest
        rw [sea_spec s hc hsh hn, hsea, Option.bind_some, place_spec hs, show placeB s fr = false from decide_eq_false hfr]; rfl
      · unfold impl_WayOf impl_Cheapest
        rw [sea_impl s hc hsh hn, hsea, Option.bind_some, place_impl hs, show placeB s fr = false from decide_eq_false hfr]; rfl
theorem laws_FnExactWayOf_true (aS0 : SSea) (aFrom1 : Int) (aTo2 : Int) (h0 : wfSSea aS0) (h1 : rng (-9223372036854775808) 9223372036854775807 aFrom1) (h2 : rng (-9223372036854775808) 9223372036854775807 aTo2) : ∃ n, laws_FnExactWayOf n aS0 aFrom1 aTo2 = some true := by
  refine ⟨1000000001, ?_⟩
  generalize hN : (1000000001 : Nat) = n
  have hn : 1000000000 < n := by omega
  unfold laws_FnExactWayOf
  rw [laws_szSea_ok (n := n) aS0 (left := 1048576) h0 (by omega) (by omega) hn, Option.bind_some]
  refine guard_sz fun hw => ?_
  have w1 : w_SSea aS0 = w_LInt aS0.Costs + w_LSClosed aS0.Shut := rfl
  have w2 : w_LInt aS0.Costs = aS0.Costs.length := rfl
  have w3 : w_LSClosed aS0.Shut = aS0.Shut.length := rfl
  obtain ⟨R, c1, hS, hI⟩ := way_both (n := n) aS0 aFrom1 aTo2 (by omega) (by omega) hn
  obtain ⟨R1, R2⟩ := R
  dsimp only at c1
  have n1 := n_LInt_le aS0.Costs
  have n2 := n_LSClosed_le aS0.Shut
  have n3 := n_LInt_le R1
  have w4 : w_LInt R1 = R1.length := rfl
  obtain ⟨u0, u1, m1⟩ := laws_markSea_ok (n := n) aS0 1 (by omega) (by omega) (by omega) hn
  obtain ⟨v1, p1, p2⟩ := laws_markIntS_ok (n := n) R1 1 (by omega) (by omega) (by omega) hn
  have d1 : decide (1 + ((n_LInt aS0.Costs + n_LSClosed aS0.Shut : Nat) : Int) < 0) = false := decide_eq_false (by omega)
  have d2 : decide (1 + ((n_LInt R1 : Nat) : Int) < 0) = false := decide_eq_false (by omega)
  unfold laws_FnExactWayOf_k3 laws_FnExactWayOf_k2 laws_FnExactWayOf_k1 laws_FnExactWayOf_k0
  simp only [laws_toSea_ok aS0 (show _ ≤ 100000000 by omega) hn, hS, hI, Option.bind_some, laws_eqSea_ok aS0 (show _ ≤ 100000000 by omega) hn, laws_eqIntS_ok R1 (show _ ≤ 100000000 by omega) hn,
    m1, p1, p2, d1, d2, decide_true, beq_self_eq_true, Bool.not_true, cond_false, cond_true]
end Go.Sm
end
