import Derived.Test.YtikjficedlkjjaaEngA
/- The functions as plain functions over data, and that the law answers true for all arguments. Stuck: the carts that are away from their goals and do not move are told alike by the written-out way and by the built one, for every floor and all carts. -/
section
set_option linter.unusedSimpArgs false
set_option linter.deprecated false
set_option linter.unusedSectionVars false
set_option linter.unusedVariables false
namespace Go.Sm
structure SFloor where
  Wide : Int
  High : Int
  Ways : List Int
structure SCart where
  At : Int
  Goal : Int
structure SArr2_Int where
  x0 : Int
  x1 : Int
def dSFloor : SFloor := ⟨(0 : Int), (0 : Int), []⟩
def dSCart : SCart := ⟨(0 : Int), (0 : Int)⟩
def dSArr2_Int : SArr2_Int := ⟨(0 : Int), (0 : Int)⟩
def laws_szIntS (n : Nat) (a0 : List Int) (left1 : Int) : Option Int :=
  (bd (w64 (left1 - (a0.length : Int))) fun (v1 : Int) => (bif (decide (v1 < (0 : Int))) then some ((-1 : Int)) else some (v1)))
def laws_szFloor (n : Nat) (a0 : SFloor) (left1 : Int) : Option Int :=
  (laws_szIntS n a0.Ways left1).bind fun r1 => (bif (decide (r1 < (0 : Int))) then some ((-1 : Int)) else some (r1))
def laws_szCartS (n : Nat) (a0 : List SCart) (left1 : Int) : Option Int :=
  (bd (w64 (left1 - (a0.length : Int))) fun (v1 : Int) => (bif (decide (v1 < (0 : Int))) then some ((-1 : Int)) else some (v1)))
def laws_toIntS_L3 {R : Type} (n : Nat) (kx0 : List Int → Option R) (J : Int → List Int → Option R) (a1 : List Int) (i2 : Int) (out3 : List Int) : Option R :=
  (bif (decide (i2 < (a1.length : Int))) then ix i2 a1.length (ix i2 out3.length (chk (decide (i2.toNat < out3.length)) ((bd (out3.set i2.toNat (a1.getD i2.toNat (0 : Int))) fun (l7 : List Int) => J (w64 (i2 + (1 : Int))) l7)))) else kx0 out3)
def laws_toIntS (n : Nat) (a0 : List Int) : Option (List Int) :=
  chk (decide ((0 : Int) ≤ (a0.length : Int))) (chk (decide ((a0.length : Int) ≤ (a0.length : Int))) (chk (decide ((a0.length : Int) ≤ 9223372036854775807 ∧ (a0.length : Int) * (8 : Int) ≤ 281474976710656)) (loopN (fun (x : Int × List Int) J' => laws_toIntS_L3 n (fun out8 => some (out8)) (fun i9 out10 => J' (i9, out10)) a0 x.1 x.2) n ((0 : Int), (List.replicate (a0.length : Int).toNat (0 : Int))))))
def laws_toFloor (n : Nat) (a0 : SFloor) : Option SFloor :=
  (laws_toIntS n a0.Ways).bind fun r1 => some ((⟨a0.Wide, a0.High, r1⟩ : SFloor))
def laws_toCart (n : Nat) (a0 : SCart) : Option SCart :=
  some (a0)
def laws_toCartS_L3 {R : Type} (n : Nat) (kx0 : List SCart → Option R) (J : Int → List SCart → Option R) (a1 : List SCart) (i2 : Int) (out3 : List SCart) : Option R :=
  (bif (decide (i2 < (a1.length : Int))) then ix i2 a1.length ((bd (a1.getD i2.toNat dSCart) fun (e8 : SCart) => (laws_toCart n e8).bind fun r9 => ix i2 out3.length (chk (decide (i2.toNat < out3.length)) (J (w64 (i2 + (1 : Int))) (out3.set i2.toNat r9))))) else kx0 out3)
def laws_toCartS (n : Nat) (a0 : List SCart) : Option (List SCart) :=
  chk (decide ((0 : Int) ≤ (a0.length : Int))) (chk (decide ((a0.length : Int) ≤ (a0.length : Int))) (chk (decide ((a0.length : Int) ≤ 9223372036854775807 ∧ (a0.length : Int) * (16 : Int) ≤ 281474976710656)) (loopN (fun (x : Int × List SCart) J' => laws_toCartS_L3 n (fun out10 => some (out10)) (fun i11 out12 => J' (i11, out12)) a0 x.1 x.2) n ((0 : Int), (List.replicate (a0.length : Int).toNat dSCart)))))
def spec_l1In (n : Nat) (x0 : Int) (a1 : Int) (b2 : Int) : Option Bool :=
  (bif (decide (x0 ≥ a1)) then some ((decide (x0 ≤ b2))) else some (false))
def spec_l3All_L2 {R : Type} (n : Nat) (kx0 : Option R) (kxr : Bool → Option R) (J : Int → Option R) (list1 : List Int) (a2 : Int) (b3 : Int) (i4 : Int) : Option R :=
  (bif (decide (i4 < (list1.length : Int))) then ix i4 list1.length ((spec_l1In n (list1.getD i4.toNat (0 : Int)) a2 b3).bind fun r8 => (bif (!r8) then kxr false else J (w64 (i4 + (1 : Int))))) else kx0)
def spec_l3All (n : Nat) (list0 : List Int) (a1 : Int) (b2 : Int) : Option Bool :=
  loopN (fun (x : Int) J' => spec_l3All_L2 n (some (true)) (fun t10 => some (t10)) J' list0 a1 b2 x) n ((0 : Int))
def spec_FloorOk (n : Nat) (f0 : SFloor) : Option Bool :=
  (spec_l1In n f0.Wide (1 : Int) (10 : Int)).bind fun r1 => (bif r1 then (spec_l1In n f0.High (1 : Int) (10 : Int)).bind fun r2 => (bif r2 then (bd (w64 (f0.Wide * f0.High)) fun (v3 : Int) => (bif (decide ((f0.Ways.length : Int) = v3)) then (spec_l3All n f0.Ways (0 : Int) (15 : Int)).bind fun r4 => some (r4) else some (false))) else some (false)) else some (false))
def spec_CartsOk_L9 {R : Type} (n : Nat) (kx2 : Option R) (kxr : Bool → Option R) (J : Int → Option R) (carts17 : List SCart) (i18 : Int) (k19 : Int) (f20 : SFloor) : Option R :=
  (bif (decide (k19 < i18)) then ix k19 carts17.length ((bd (carts17.getD k19.toNat dSCart) fun (e25 : SCart) => ix i18 carts17.length ((bd (carts17.getD i18.toNat dSCart) fun (e26 : SCart) => (bif (decide (e25.At = e26.At)) then kxr false else J (w64 (k19 + (1 : Int)))))))) else kx2)
def spec_CartsOk_k0 {R : Type} (n : Nat) (kx0 : Option R) (kxr : Bool → Option R) (J : Int → Option R) (carts3 : List SCart) (i6 : Int) (f5 : SFloor) : Option R :=
  ix i6 carts3.length ((bd (carts3.getD i6.toNat dSCart) fun (e7 : SCart) => (bd (w64 ((f5.Ways.length : Int) - (1 : Int))) fun (v8 : Int) => (spec_l1In n e7.At (0 : Int) v8).bind fun r9 => (bif (!r9) then kxr false else ix i6 carts3.length ((bd (carts3.getD i6.toNat dSCart) fun (e11 : SCart) => (bd (w64 ((f5.Ways.length : Int) - (1 : Int))) fun (v12 : Int) => (spec_l1In n e11.Goal (-1 : Int) v12).bind fun r13 => (bif (!r13) then kxr false else loopN (fun (x : Int) J' => spec_CartsOk_L9 n (J (w64 (i6 + (1 : Int)))) (fun t36 => kxr t36) J' carts3 i6 x f5) n ((0 : Int))))))))))
def spec_CartsOk_L4 {R : Type} (n : Nat) (kx0 : Option R) (kxr : Bool → Option R) (J : Int → Option R) (carts3 : List SCart) (i4 : Int) (f5 : SFloor) : Option R :=
  (bif (decide (i4 < (carts3.length : Int))) then spec_CartsOk_k0 n kx0 kxr J carts3 i4 f5 else kx0)
def spec_CartsOk (n : Nat) (f0 : SFloor) (carts1 : List SCart) : Option Bool :=
  (spec_FloorOk n f0).bind fun r1 => (bif (!r1) then some (false) else (bif (decide ((carts1.length : Int) > (12 : Int))) then some (false) else loopN (fun (x : Int) J' => spec_CartsOk_L4 n (some (true)) (fun t42 => some (t42)) J' carts1 x f0) n ((0 : Int))))
def spec_l19Next_k0 (n : Nat)  (x5 : Int) (y6 : Int) (f0 : SFloor) : Option Int :=
  (bd (w64 (f0.Wide - (1 : Int))) fun (v7 : Int) => (spec_l1In n x5 (0 : Int) v7).bind fun r8 => (bif (!r8) then some ((-1 : Int)) else (bd (w64 (f0.High - (1 : Int))) fun (v11 : Int) => (spec_l1In n y6 (0 : Int) v11).bind fun r12 => (bif (!r12) then some ((-1 : Int)) else (bd (w64 ((w64 (y6 * f0.Wide)) + x5)) fun (v22 : Int) => some (v22))))))
def spec_l19Next_k1 (n : Nat)  (p1 : Int) (bit2 : Int) (f0 : SFloor) : Option Int :=
  (bif decide (f0.Wide = 0) then none else (bif decide (f0.Wide = 0) then none else (bd (w64 (Int.tdiv p1 f0.Wide)) fun (v3 : Int) => (bif (decide (bit2 = (0 : Int))) then (bd (w64 ((Int.tmod p1 f0.Wide) + (1 : Int))) fun (v4 : Int) => spec_l19Next_k0 n  v4 v3 f0) else (bif (decide (bit2 = (1 : Int))) then spec_l19Next_k0 n  (Int.tmod p1 f0.Wide) (w64 (v3 + (1 : Int))) f0 else (bif (decide (bit2 = (2 : Int))) then (bd (w64 ((Int.tmod p1 f0.Wide) - (1 : Int))) fun (v25 : Int) => spec_l19Next_k0 n  v25 v3 f0) else spec_l19Next_k0 n  (Int.tmod p1 f0.Wide) (w64 (v3 - (1 : Int))) f0))))))
def spec_l19Next (n : Nat) (f0 : SFloor) (p1 : Int) (bit2 : Int) : Option Int :=
  ix p1 f0.Ways.length (chk (decide (0 ≤ bit2)) ((bd (Int.fdiv (f0.Ways.getD p1.toNat (0 : Int)) (2 ^ (min bit2.toNat 64))) fun (v1 : Int) => (bd (w64 (((BitVec.ofInt 64 v1 &&& BitVec.ofInt 64 (1 : Int)).toNat : Nat) : Int)) fun (v2 : Int) => (bif (decide (v2 = (0 : Int))) then some ((-1 : Int)) else spec_l19Next_k1 n  p1 bit2 f0)))))
def spec_Hops_L5 {R : Type} (n : Nat) (kx0 : List Int → Option R) (J : Int → List Int → Option R) (goal5 : Int) (p6 : Int) (f7 : SFloor) (out8 : List Int) : Option R :=
  (bif (decide (p6 < (out8.length : Int))) then ix p6 out8.length (chk (decide (p6.toNat < out8.length)) ((bd (out8.set p6.toNat (-1 : Int)) fun (l12 : List Int) => J (w64 (p6 + (1 : Int))) l12))) else kx0 out8)
def spec_Hops_k0 {R : Type} (n : Nat) (kx6 : List Int → Option R) (J : Int → List Int → Option R) (d26 : Int) (p27 : Int) (bit37 : Int) (t38 : Bool) (f29 : SFloor) (out39 : List Int) : Option R :=
  (bif t38 then ix p27 out39.length (chk (decide (p27.toNat < out39.length)) ((bd (out39.set p27.toNat (w64 (d26 + (1 : Int)))) fun (l40 : List Int) => (bd (w64 (bit37 + (1 : Int))) fun (v44 : Int) => J v44 l40)))) else (bd (w64 (bit37 + (1 : Int))) fun (v47 : Int) => J v47 out39))
def spec_Hops_k1 {R : Type} (n : Nat) (kx6 : List Int → Option R) (J : Int → List Int → Option R) (d26 : Int) (p27 : Int) (bit34 : Int) (f29 : SFloor) (out35 : List Int) : Option R :=
  (spec_l19Next n f29 p27 bit34).bind fun r36 => (bif (decide (r36 ≥ (0 : Int))) then ix r36 out35.length (chk (decide (r36.toNat < out35.length)) (spec_Hops_k0 n kx6 J d26 p27 bit34 (decide ((out35.getD r36.toNat (0 : Int)) = d26)) f29 out35)) else (bd (w64 (bit34 + (1 : Int))) fun (v55 : Int) => J v55 out35))
def spec_Hops_L16 {R : Type} (n : Nat) (kx6 : List Int → Option R) (J : Int → List Int → Option R) (d26 : Int) (p27 : Int) (bit28 : Int) (f29 : SFloor) (out30 : List Int) : Option R :=
  (bif (decide (bit28 < (4 : Int))) then ix p27 out30.length (chk (decide (p27.toNat < out30.length)) ((bif (decide ((out30.getD p27.toNat (0 : Int)) < (0 : Int))) then spec_Hops_k1 n kx6 J d26 p27 bit28 f29 out30 else kx6 out30))) else kx6 out30)
def spec_Hops_L13 {R : Type} (n : Nat) (kx4 : List Int → Option R) (J : Int → List Int → Option R) (d20 : Int) (p21 : Int) (f22 : SFloor) (out23 : List Int) : Option R :=
  (bif (decide (p21 < (out23.length : Int))) then loopN (fun (x : Int × List Int) J' => spec_Hops_L16 n (fun out63 => J (w64 (p21 + (1 : Int))) out63) (fun bit64 out65 => J' (bit64, out65)) d20 p21 x.1 f22 x.2) n ((0 : Int), out23) else kx4 out23)
def spec_Hops_L10 {R : Type} (n : Nat) (kx2 : List Int → Option R) (J : Int → List Int → Option R) (d15 : Int) (f16 : SFloor) (out17 : List Int) : Option R :=
  (bif (decide (d15 < (out17.length : Int))) then loopN (fun (x : Int × List Int) J' => spec_Hops_L13 n (fun out69 => J (w64 (d15 + (1 : Int))) out69) (fun p70 out71 => J' (p70, out71)) d15 x.1 f16 x.2) n ((0 : Int), out17) else kx2 out17)
def spec_Hops_k2 (n : Nat)  (goal1 : Int) (f0 : SFloor) : Option (List Int × Bool) :=
  chk (decide ((0 : Int) ≤ (f0.Ways.length : Int))) (chk (decide ((f0.Ways.length : Int) ≤ (f0.Ways.length : Int))) (chk (decide ((f0.Ways.length : Int) ≤ 9223372036854775807 ∧ (f0.Ways.length : Int) * (8 : Int) ≤ 281474976710656)) (loopN (fun (x : Int × List Int) J' => spec_Hops_L5 n (fun out13 => ix goal1 out13.length (chk (decide (goal1.toNat < out13.length)) ((bd (out13.set goal1.toNat (0 : Int)) fun (l14 : List Int) => loopN (fun (x : Int × List Int) J' => spec_Hops_L10 n (fun out72 => some (out72, true)) (fun d73 out74 => J' (d73, out74)) x.1 f0 x.2) n ((0 : Int), l14))))) (fun p75 out76 => J' (p75, out76)) goal1 x.1 f0 x.2) n ((0 : Int), (List.replicate (f0.Ways.length : Int).toNat (0 : Int))))))
def spec_Hops (n : Nat) (f0 : SFloor) (goal1 : Int) : Option (List Int × Bool) :=
  (spec_FloorOk n f0).bind fun r1 => (bif (!r1) then some ([], false) else (bd (w64 ((f0.Ways.length : Int) - (1 : Int))) fun (v2 : Int) => (spec_l1In n goal1 (0 : Int) v2).bind fun r3 => (bif (!r3) then some ([], false) else spec_Hops_k2 n  goal1 f0)))
def spec_l19Want_k0 {R : Type} (n : Nat) (kx0 : Option R) (kxr : Int → Option R) (J : Int → Option R) (bit12 : Int) (f7 : SFloor) (c8 : SCart) (hops9 : List Int) : Option R :=
  (spec_l19Next n f7 c8.At bit12).bind fun r13 => (bif (decide (r13 ≥ (0 : Int))) then ix r13 hops9.length (chk (decide (r13.toNat < hops9.length)) ((bif (decide ((hops9.getD r13.toNat (0 : Int)) ≥ (0 : Int))) then ix r13 hops9.length (chk (decide (r13.toNat < hops9.length)) (ix c8.At hops9.length (chk (decide (c8.At.toNat < hops9.length)) ((bif (decide ((hops9.getD r13.toNat (0 : Int)) < (hops9.getD c8.At.toNat (0 : Int)))) then kxr r13 else (bd (w64 (bit12 + (1 : Int))) fun (v21 : Int) => J v21)))))) else (bd (w64 (bit12 + (1 : Int))) fun (v27 : Int) => J v27)))) else (bd (w64 (bit12 + (1 : Int))) fun (v31 : Int) => J v31))
def spec_l19Want_L5 {R : Type} (n : Nat) (kx0 : Option R) (kxr : Int → Option R) (J : Int → Option R) (bit6 : Int) (f7 : SFloor) (c8 : SCart) (hops9 : List Int) : Option R :=
  (bif (decide (bit6 < (4 : Int))) then ix c8.At hops9.length (chk (decide (c8.At.toNat < hops9.length)) ((bif (decide ((hops9.getD c8.At.toNat (0 : Int)) > (0 : Int))) then spec_l19Want_k0 n kx0 kxr J bit6 f7 c8 hops9 else kx0))) else kx0)
def spec_l19Want (n : Nat) (f0 : SFloor) (c1 : SCart) : Option Int :=
  (bif (decide (c1.Goal < (0 : Int))) then some ((-1 : Int)) else (bif (decide (c1.Goal = c1.At)) then some ((-1 : Int)) else (spec_Hops n f0 c1.Goal).bind fun r40 => loopN (fun (x : Int) J' => spec_l19Want_L5 n (some ((-1 : Int))) (fun t41 => some (t41)) J' x f0 c1 r40.1) n ((0 : Int))))
def spec_l19Struck_k0 {R : Type} (n : Nat) (kx0 : Option R) (kxr : Bool → Option R) (J : Int → Option R) (carts1 : List SCart) (wants2 : List Int) (i3 : Int) (k5 : Int) : Option R :=
  (bif (decide (k5 < i3)) then ix k5 wants2.length (ix i3 wants2.length ((bif (decide ((wants2.getD k5.toNat (0 : Int)) = (wants2.getD i3.toNat (0 : Int)))) then kxr true else ix k5 carts1.length ((bd (carts1.getD k5.toNat dSCart) fun (e7 : SCart) => ix i3 wants2.length ((bif (decide (e7.At = (wants2.getD i3.toNat (0 : Int)))) then ix k5 wants2.length ((bif (decide ((wants2.getD k5.toNat (0 : Int)) < (0 : Int))) then kxr true else ix k5 wants2.length (ix i3 carts1.length ((bd (carts1.getD i3.toNat dSCart) fun (e9 : SCart) => (bif (decide ((wants2.getD k5.toNat (0 : Int)) = e9.At)) then kxr true else J (w64 (k5 + (1 : Int))))))))) else J (w64 (k5 + (1 : Int)))))))))) else ix k5 carts1.length ((bd (carts1.getD k5.toNat dSCart) fun (e17 : SCart) => ix i3 wants2.length ((bif (decide (e17.At = (wants2.getD i3.toNat (0 : Int)))) then ix k5 wants2.length ((bif (decide ((wants2.getD k5.toNat (0 : Int)) < (0 : Int))) then kxr true else ix k5 wants2.length (ix i3 carts1.length ((bd (carts1.getD i3.toNat dSCart) fun (e19 : SCart) => (bif (decide ((wants2.getD k5.toNat (0 : Int)) = e19.At)) then kxr true else J (w64 (k5 + (1 : Int))))))))) else J (w64 (k5 + (1 : Int))))))))
def spec_l19Struck_L4 {R : Type} (n : Nat) (kx0 : Option R) (kxr : Bool → Option R) (J : Int → Option R) (carts1 : List SCart) (wants2 : List Int) (i3 : Int) (k4 : Int) : Option R :=
  (bif (decide (k4 < (carts1.length : Int))) then spec_l19Struck_k0 n kx0 kxr J carts1 wants2 i3 k4 else kx0)
def spec_l19Struck (n : Nat) (carts0 : List SCart) (wants1 : List Int) (i2 : Int) : Option Bool :=
  ix i2 wants1.length ((bif (decide ((wants1.getD i2.toNat (0 : Int)) < (0 : Int))) then some (false) else loopN (fun (x : Int) J' => spec_l19Struck_L4 n (some (false)) (fun t27 => some (t27)) J' carts0 wants1 i2 x) n ((0 : Int))))
def spec_Round_L5 {R : Type} (n : Nat) (kx0 : List Int → Option R) (J : Int → List Int → Option R) (carts2 : List SCart) (i3 : Int) (f4 : SFloor) (wants5 : List Int) : Option R :=
  (bif (decide (i3 < (carts2.length : Int))) then ix i3 carts2.length ((bd (carts2.getD i3.toNat dSCart) fun (e10 : SCart) => (spec_l19Want n f4 e10).bind fun r11 => chk (decide ((wants5 ++ [r11]).length * 8 ≤ 140737488355328)) (J (w64 (i3 + (1 : Int))) (wants5 ++ [r11])))) else kx0 wants5)
def spec_Round_k0 {R : Type} (n : Nat) (kx4 : Bool → List Int → Option R) (J : Bool → Int → List Int → Option R) (carts17 : List SCart) (again25 : Bool) (i26 : Int) (wants27 : List Int) : Option R :=
  (spec_l19Struck n carts17 wants27 i26).bind fun r28 => (bif r28 then ix i26 wants27.length (chk (decide (i26.toNat < wants27.length)) ((bd (wants27.set i26.toNat (-1 : Int)) fun (l29 : List Int) => J true (w64 (i26 + (1 : Int))) l29))) else J again25 (w64 (i26 + (1 : Int))) wants27)
def spec_Round_L12 {R : Type} (n : Nat) (kx4 : Bool → List Int → Option R) (J : Bool → Int → List Int → Option R) (carts17 : List SCart) (again18 : Bool) (i19 : Int) (wants20 : List Int) : Option R :=
  (bif (decide (i19 < (carts17.length : Int))) then (bif (!again18) then spec_Round_k0 n kx4 J carts17 again18 i19 wants20 else kx4 again18 wants20) else kx4 again18 wants20)
def spec_Round_L9 {R : Type} (n : Nat) (kx2 : List Int → Option R) (J : Bool → List Int → Option R) (carts13 : List SCart) (again14 : Bool) (wants15 : List Int) : Option R :=
  (bif again14 then loopN (fun (x : Bool × Int × List Int) J' => spec_Round_L12 n (fun again46 wants47 => J again46 wants47) (fun again48 i49 wants50 => J' (again48, i49, wants50)) carts13 x.1 x.2.1 x.2.2) n (false, (0 : Int), wants15) else kx2 wants15)
def spec_Round_k1 {R : Type} (n : Nat) (kx6 : List SCart → List Int → Option R) (J : Int → List SCart → List Int → Option R) (carts52 : List SCart) (i57 : Int) (wants54 : List Int) (out58 : List SCart) (moved59 : List Int) : Option R :=
  ix i57 wants54.length (chk (decide (i57.toNat < wants54.length)) ((bif (decide ((wants54.getD i57.toNat (0 : Int)) ≥ (0 : Int))) then ix i57 wants54.length (chk (decide (i57.toNat < wants54.length)) (ix i57 out58.length (chk (decide (i57.toNat < out58.length)) ((bd (out58.getD i57.toNat dSCart) fun (e60 : SCart) => (bd (out58.set i57.toNat (⟨(wants54.getD i57.toNat (0 : Int)), e60.Goal⟩ : SCart)) fun (l61 : List SCart) => chk (decide ((moved59 ++ [i57]).length * 8 ≤ 140737488355328)) (J (w64 (i57 + (1 : Int))) l61 (moved59 ++ [i57])))))))) else J (w64 (i57 + (1 : Int))) out58 moved59)))
def spec_Round_L20 {R : Type} (n : Nat) (kx6 : List SCart → List Int → Option R) (J : Int → List SCart → List Int → Option R) (carts52 : List SCart) (i53 : Int) (wants54 : List Int) (out55 : List SCart) (moved56 : List Int) : Option R :=
  (bif (decide (i53 < (carts52.length : Int))) then spec_Round_k1 n kx6 J carts52 i53 wants54 out55 moved56 else kx6 out55 moved56)
def spec_Round_k2 (n : Nat)  (carts1 : List SCart) (f0 : SFloor) : Option (List SCart × List Int × Bool) :=
  loopN (fun (x : Int × List Int) J' => spec_Round_L5 n (fun wants12 => loopN (fun (x : Bool × List Int) J' => spec_Round_L9 n (fun wants51 => chk (decide (carts1.length * 16 ≤ 140737488355328)) (loopN (fun (x : Int × List SCart × List Int) J' => spec_Round_L20 n (fun out68 moved69 => some (out68, moved69, true)) (fun i70 out71 moved72 => J' (i70, out71, moved72)) carts1 x.1 wants51 x.2.1 x.2.2) n ((0 : Int), carts1, []))) (fun again73 wants74 => J' (again73, wants74)) carts1 x.1 x.2) n (true, wants12)) (fun i75 wants76 => J' (i75, wants76)) carts1 x.1 f0 x.2) n ((0 : Int), [])
def spec_Round (n : Nat) (f0 : SFloor) (carts1 : List SCart) : Option (List SCart × List Int × Bool) :=
  (spec_CartsOk n f0 carts1).bind fun r1 => (bif (!r1) then some ([], [], false) else spec_Round_k2 n  carts1 f0)
def spec_l9Has_L2 {R : Type} (n : Nat) (kx0 : Option R) (kxr : Bool → Option R) (J : Int → Option R) (list1 : List Int) (x2 : Int) (i3 : Int) : Option R :=
  (bif (decide (i3 < (list1.length : Int))) then ix i3 list1.length ((bif (decide ((list1.getD i3.toNat (0 : Int)) = x2)) then kxr true else J (w64 (i3 + (1 : Int))))) else kx0)
def spec_l9Has (n : Nat) (list0 : List Int) (x1 : Int) : Option Bool :=
  loopN (fun (x : Int) J' => spec_l9Has_L2 n (some (false)) (fun t7 => some (t7)) J' list0 x1 x) n ((0 : Int))
def spec_Stuck_k0 {R : Type} (n : Nat) (kx0 : List Int → Option R) (J : Int → List Int → Option R) (carts2 : List SCart) (ok3 : Bool) (i10 : Int) (f5 : SFloor) (moved6 : List Int) (out11 : List Int) : Option R :=
  (spec_l9Has n moved6 i10).bind fun r12 => (bif (!r12) then ix i10 carts2.length ((bd (carts2.getD i10.toNat dSCart) fun (e13 : SCart) => (spec_l19Want n f5 e13).bind fun r14 => (bif (decide (r14 ≥ (0 : Int))) then chk (decide ((out11 ++ [i10]).length * 8 ≤ 140737488355328)) (J (w64 (i10 + (1 : Int))) (out11 ++ [i10])) else J (w64 (i10 + (1 : Int))) out11))) else J (w64 (i10 + (1 : Int))) out11)
def spec_Stuck_L4 {R : Type} (n : Nat) (kx0 : List Int → Option R) (J : Int → List Int → Option R) (carts2 : List SCart) (ok3 : Bool) (i4 : Int) (f5 : SFloor) (moved6 : List Int) (out7 : List Int) : Option R :=
  (bif (decide (i4 < (carts2.length : Int))) then (bif ok3 then spec_Stuck_k0 n kx0 J carts2 ok3 i4 f5 moved6 out7 else kx0 out7) else kx0 out7)
def spec_Stuck (n : Nat) (f0 : SFloor) (carts1 : List SCart) : Option (List Int × Bool) :=
  (spec_Round n f0 carts1).bind fun r1 => loopN (fun (x : Int × List Int) J' => spec_Stuck_L4 n (fun out36 => some (out36, r1.2.2)) (fun i37 out38 => J' (i37, out38)) carts1 r1.2.2 x.1 f0 r1.2.1 x.2) n ((0 : Int), [])
def impl_in (n : Nat) (n0 : Int) (least1 : Int) (most2 : Int) : Option Bool :=
  (bif (decide (n0 ≥ least1)) then some ((decide (n0 ≤ most2))) else some (false))
def impl_all_1 (n : Nat) (n0 : Int) (a1 : Int) (a2 : Int) : Option Bool :=
  (impl_in n n0 a1 a2).bind fun r1 => some ((!r1))
def slices_IndexFunc_int_int__impl_all_1_L2 {R : Type} (n : Nat) (kx0 : Option R) (kxr : Int → Option R) (J : Int → Option R) (s1 : List Int) (f2 : Int) (f3 : Int) (t4 : Int) (t5 : Int) : Option R :=
  (bif (decide (t5 < t4)) then ix t5 s1.length ((impl_all_1 n (s1.getD t5.toNat (0 : Int)) f2 f3).bind fun r9 => (bif r9 then kxr t5 else J (w64 (t5 + (1 : Int))))) else kx0)
def slices_IndexFunc_int_int__impl_all_1 (n : Nat) (s0 : List Int) (f1c0 : Int) (f1c1 : Int) : Option Int :=
  loopN (fun (x : Int) J' => slices_IndexFunc_int_int__impl_all_1_L2 n (some ((-1 : Int))) (fun t11 => some (t11)) J' s0 f1c0 f1c1 (s0.length : Int) x) n ((0 : Int))
def slices_ContainsFunc_int_int__impl_all_1 (n : Nat) (s0 : List Int) (f1c0 : Int) (f1c1 : Int) : Option Bool :=
  (slices_IndexFunc_int_int__impl_all_1 n s0 f1c0 f1c1).bind fun r1 => some ((decide (r1 ≥ (0 : Int))))
def impl_all (n : Nat) (l0 : List Int) (least1 : Int) (most2 : Int) : Option Bool :=
  (slices_ContainsFunc_int_int__impl_all_1 n l0 least1 most2).bind fun r1 => some ((!r1))
def impl_FloorOk (n : Nat) (f0 : SFloor) : Option Bool :=
  (impl_in n f0.Wide (1 : Int) (10 : Int)).bind fun r1 => (bif r1 then (impl_in n f0.High (1 : Int) (10 : Int)).bind fun r2 => (bif r2 then (bd (w64 (f0.Wide * f0.High)) fun (v3 : Int) => (bif (decide ((f0.Ways.length : Int) = v3)) then (impl_all n f0.Ways (0 : Int) (15 : Int)).bind fun r4 => some (r4) else some (false))) else some (false)) else some (false))
def impl_Floor_place (n : Nat) (f0 : SFloor) (p1 : Int) : Option Bool :=
  (bd (w64 (f0.Wide * f0.High)) fun (v1 : Int) => (impl_in n p1 (0 : Int) (w64 (v1 - (1 : Int)))).bind fun r2 => some (r2))
def impl_CartsOk_1 (n : Nat) (x0 : SCart) (a1 : SCart) : Option Bool :=
  some ((decide (x0.At = a1.At)))
def slices_IndexFunc_impl_Cart_impl_Cart__impl_CartsOk_1_L2 {R : Type} (n : Nat) (kx0 : Option R) (kxr : Int → Option R) (J : Int → Option R) (s1 : List SCart) (f2 : SCart) (t3 : Int) (t4 : Int) : Option R :=
  (bif (decide (t4 < t3)) then ix t4 s1.length ((bd (s1.getD t4.toNat dSCart) fun (e9 : SCart) => (impl_CartsOk_1 n e9 f2).bind fun r10 => (bif r10 then kxr t4 else J (w64 (t4 + (1 : Int)))))) else kx0)
def slices_IndexFunc_impl_Cart_impl_Cart__impl_CartsOk_1 (n : Nat) (s0 : List SCart) (f1c0 : SCart) : Option Int :=
  loopN (fun (x : Int) J' => slices_IndexFunc_impl_Cart_impl_Cart__impl_CartsOk_1_L2 n (some ((-1 : Int))) (fun t12 => some (t12)) J' s0 f1c0 (s0.length : Int) x) n ((0 : Int))
def slices_ContainsFunc_impl_Cart_impl_Cart__impl_CartsOk_1 (n : Nat) (s0 : List SCart) (f1c0 : SCart) : Option Bool :=
  (slices_IndexFunc_impl_Cart_impl_Cart__impl_CartsOk_1 n s0 f1c0).bind fun r1 => some ((decide (r1 ≥ (0 : Int))))
def impl_CartsOk_k0 {R : Type} (n : Nat) (kx0 : Option R) (kxr : Bool → Option R) (J : Int → Option R) (carts3 : List SCart) (t4 : List SCart) (t5 : Int) (t8 : Int) (f7 : SFloor) : Option R :=
  ix t8 t4.length ((bd (t4.getD t8.toNat dSCart) fun (e9 : SCart) => (impl_Floor_place n f7 e9.At).bind fun r10 => (bif (!r10) then kxr false else (bif (!(decide (e9.Goal = (-1 : Int)))) then (impl_Floor_place n f7 e9.Goal).bind fun r12 => (bif (!r12) then kxr false else chk (decide ((0 : Int) ≤ t8)) (chk (decide (t8 ≤ (carts3.length : Int))) ((slices_ContainsFunc_impl_Cart_impl_Cart__impl_CartsOk_1 n (carts3.take t8.toNat) e9).bind fun r14 => (bif r14 then kxr false else J (w64 (t8 + (1 : Int))))))) else chk (decide ((0 : Int) ≤ t8)) (chk (decide (t8 ≤ (carts3.length : Int))) ((slices_ContainsFunc_impl_Cart_impl_Cart__impl_CartsOk_1 n (carts3.take t8.toNat) e9).bind fun r19 => (bif r19 then kxr false else J (w64 (t8 + (1 : Int))))))))))
def impl_CartsOk_L4 {R : Type} (n : Nat) (kx0 : Option R) (kxr : Bool → Option R) (J : Int → Option R) (carts3 : List SCart) (t4 : List SCart) (t5 : Int) (t6 : Int) (f7 : SFloor) : Option R :=
  (bif (decide (t6 < t5)) then impl_CartsOk_k0 n kx0 kxr J carts3 t4 t5 t6 f7 else kx0)
def impl_CartsOk (n : Nat) (f0 : SFloor) (carts1 : List SCart) : Option Bool :=
  (impl_FloorOk n f0).bind fun r1 => (bif (!r1) then some (false) else (bif (decide ((carts1.length : Int) > (12 : Int))) then some (false) else loopN (fun (x : Int) J' => impl_CartsOk_L4 n (some (true)) (fun t27 => some (t27)) J' carts1 carts1 (carts1.length : Int) x f0) n ((0 : Int))))
def impl_Floor_leads_k0 {R : Type} (n : Nat) (kx0 : List Int → Option R) (J : Int → List Int → Option R) (p2 : Int) (x3 : Int) (y4 : Int) (t5 : Int) (t10 : Int) (f7 : SFloor) (out11 : List Int) (t9 : List SArr2_Int) : Option R :=
  ix t10 t9.length (chk (decide (t10.toNat < t9.length)) ((bd (t9.getD t10.toNat dSArr2_Int) fun (e12 : SArr2_Int) => ix p2 f7.Ways.length (chk (decide (0 ≤ t10)) ((bd (Int.fdiv (f7.Ways.getD p2.toNat (0 : Int)) (2 ^ (min t10.toNat 64))) fun (v13 : Int) => (bd (w64 (((BitVec.ofInt 64 v13 &&& BitVec.ofInt 64 (1 : Int)).toNat : Nat) : Int)) fun (v14 : Int) => (bif (decide (v14 = (1 : Int))) then (bd (w64 (f7.Wide - (1 : Int))) fun (v15 : Int) => (impl_in n (w64 (x3 + e12.x0)) (0 : Int) v15).bind fun r16 => (bif r16 then (bd (w64 (f7.High - (1 : Int))) fun (v17 : Int) => (impl_in n (w64 (y4 + e12.x1)) (0 : Int) v17).bind fun r18 => (bif r18 then (bd (w64 ((w64 (y4 + e12.x1)) * f7.Wide)) fun (v29 : Int) => (bd (w64 (v29 + (w64 (x3 + e12.x0)))) fun (v30 : Int) => chk (decide ((out11 ++ [v30]).length * 8 ≤ 140737488355328)) (J (w64 (t10 + (1 : Int))) (out11 ++ [v30])))) else J (w64 (t10 + (1 : Int))) out11)) else J (w64 (t10 + (1 : Int))) out11)) else J (w64 (t10 + (1 : Int))) out11))))))))
def impl_Floor_leads_L4 {R : Type} (n : Nat) (kx0 : List Int → Option R) (J : Int → List Int → Option R) (p2 : Int) (x3 : Int) (y4 : Int) (t5 : Int) (t6 : Int) (f7 : SFloor) (out8 : List Int) (t9 : List SArr2_Int) : Option R :=
  (bif (decide (t6 < t5)) then impl_Floor_leads_k0 n kx0 J p2 x3 y4 t5 t6 f7 out8 t9 else kx0 out8)
def impl_Floor_leads (n : Nat) (f0 : SFloor) (p1 : Int) : Option (List Int) :=
  (bif decide (f0.Wide = 0) then none else (bif decide (f0.Wide = 0) then none else (bd (w64 (Int.tdiv p1 f0.Wide)) fun (v1 : Int) => loopN (fun (x : Int × List Int) J' => impl_Floor_leads_L4 n (fun out49 => some (out49)) (fun t50 out51 => J' (t50, out51)) p1 (Int.tmod p1 f0.Wide) v1 (4 : Int) x.1 f0 x.2 [(⟨(1 : Int), (0 : Int)⟩ : SArr2_Int), (⟨(0 : Int), (1 : Int)⟩ : SArr2_Int), (⟨(-1 : Int), (0 : Int)⟩ : SArr2_Int), (⟨(0 : Int), (-1 : Int)⟩ : SArr2_Int)]) n ((0 : Int), []))))
def impl_Hops_1 (n : Nat) (q0 : Int) (a1 : List Int) (a2 : Int) : Option Bool :=
  ix q0 a1.length (some ((decide ((a1.getD q0.toNat (0 : Int)) = a2))))
def slices_IndexFunc_int_int__impl_Hops_1_L2 {R : Type} (n : Nat) (kx0 : Option R) (kxr : Int → Option R) (J : Int → Option R) (s1 : List Int) (f2 : List Int) (f3 : Int) (t4 : Int) (t5 : Int) : Option R :=
  (bif (decide (t5 < t4)) then ix t5 s1.length ((impl_Hops_1 n (s1.getD t5.toNat (0 : Int)) f2 f3).bind fun r9 => (bif r9 then kxr t5 else J (w64 (t5 + (1 : Int))))) else kx0)
def slices_IndexFunc_int_int__impl_Hops_1 (n : Nat) (s0 : List Int) (f1c0 : List Int) (f1c1 : Int) : Option Int :=
  loopN (fun (x : Int) J' => slices_IndexFunc_int_int__impl_Hops_1_L2 n (some ((-1 : Int))) (fun t11 => some (t11)) J' s0 f1c0 f1c1 (s0.length : Int) x) n ((0 : Int))
def slices_ContainsFunc_int_int__impl_Hops_1 (n : Nat) (s0 : List Int) (f1c0 : List Int) (f1c1 : Int) : Option Bool :=
  (slices_IndexFunc_int_int__impl_Hops_1 n s0 f1c0 f1c1).bind fun r1 => some ((decide (r1 ≥ (0 : Int))))
def impl_Hops_L5 {R : Type} (n : Nat) (kx0 : List Int → Option R) (J : Int → List Int → Option R) (goal4 : Int) (t5 : Int) (t6 : Int) (f7 : SFloor) (t8 : List Int) : Option R :=
  (bif (decide (t6 < t5)) then ix t6 t8.length (chk (decide (t6.toNat < t8.length)) (J (w64 (t6 + (1 : Int))) (t8.set t6.toNat (-1 : Int)))) else kx0 t8)
def impl_Hops_k0 {R : Type} (n : Nat) (kx4 : Bool → List Int → Option R) (J : Bool → Int → List Int → Option R) (again26 : Bool) (t21 : Int) (t27 : Int) (f23 : SFloor) (c28 : List Int) (n25 : Int) : Option R :=
  ix t27 c28.length (chk (decide (t27.toNat < c28.length)) ((bif (decide ((c28.getD t27.toNat (0 : Int)) < (0 : Int))) then (impl_Floor_leads n f23 t27).bind fun r29 => (slices_ContainsFunc_int_int__impl_Hops_1 n r29 c28 n25).bind fun r30 => (bif r30 then ix t27 c28.length (chk (decide (t27.toNat < c28.length)) ((bd (c28.set t27.toNat (w64 (n25 + (1 : Int)))) fun (l42 : List Int) => J true (w64 (t27 + (1 : Int))) l42))) else J again26 (w64 (t27 + (1 : Int))) c28) else J again26 (w64 (t27 + (1 : Int))) c28)))
def impl_Hops_L15 {R : Type} (n : Nat) (kx4 : Bool → List Int → Option R) (J : Bool → Int → List Int → Option R) (again20 : Bool) (t21 : Int) (t22 : Int) (f23 : SFloor) (c24 : List Int) (n25 : Int) : Option R :=
  (bif (decide (t22 < t21)) then impl_Hops_k0 n kx4 J again20 t21 t22 f23 c24 n25 else kx4 again20 c24)
def impl_Hops_L11 {R : Type} (n : Nat) (kx2 : List Int → Option R) (J : Bool → List Int → Int → Option R) (again14 : Bool) (f15 : SFloor) (c16 : List Int) (n17 : Int) : Option R :=
  (bif again14 then loopN (fun (x : Bool × Int × List Int) J' => impl_Hops_L15 n (fun again63 c64 => J again63 c64 (w64 (n17 + (1 : Int)))) (fun again65 t66 c67 => J' (again65, t66, c67)) x.1 (c16.length : Int) x.2.1 f15 x.2.2 n17) n (false, (0 : Int), c16) else kx2 c16)
def impl_Hops_k1 (n : Nat)  (goal1 : Int) (f0 : SFloor) : Option (List Int × Bool) :=
  chk (decide ((0 : Int) ≤ (f0.Ways.length : Int))) (chk (decide ((f0.Ways.length : Int) ≤ (f0.Ways.length : Int))) (chk (decide ((f0.Ways.length : Int) ≤ 9223372036854775807 ∧ (f0.Ways.length : Int) * (8 : Int) ≤ 281474976710656)) (loopN (fun (x : Int × List Int) J' => impl_Hops_L5 n (fun c12 => ix goal1 c12.length (chk (decide (goal1.toNat < c12.length)) ((bd (c12.set goal1.toNat (0 : Int)) fun (l13 : List Int) => loopN (fun (x : Bool × List Int × Int) J' => impl_Hops_L11 n (fun c68 => some (c68, true)) (fun again69 c70 n71 => J' (again69, c70, n71)) x.1 f0 x.2.1 x.2.2) n (true, l13, (0 : Int)))))) (fun t72 t73 => J' (t72, t73)) goal1 ((List.replicate (f0.Ways.length : Int).toNat (0 : Int)).length : Int) x.1 f0 x.2) n ((0 : Int), (List.replicate (f0.Ways.length : Int).toNat (0 : Int))))))
def impl_Hops (n : Nat) (f0 : SFloor) (goal1 : Int) : Option (List Int × Bool) :=
  (impl_FloorOk n f0).bind fun r1 => (bif (!r1) then some ([], false) else (impl_Floor_place n f0 goal1).bind fun r2 => (bif (!r2) then some ([], false) else impl_Hops_k1 n  goal1 f0))
def impl_Floor_want_k0 {R : Type} (n : Nat) (kx0 : Option R) (kxr : Int → Option R) (J : Int → Option R) (t10 : Int) (t15 : Int) (c12 : SCart) (h13 : List Int) (t14 : List Int) : Option R :=
  ix t15 t14.length (chk (decide (t15.toNat < t14.length)) (ix (t14.getD t15.toNat (0 : Int)) h13.length (chk (decide ((t14.getD t15.toNat (0 : Int)).toNat < h13.length)) ((bif (decide ((h13.getD ((t14.getD t15.toNat (0 : Int)).toNat) (0 : Int)) ≥ (0 : Int))) then ix (t14.getD t15.toNat (0 : Int)) h13.length (chk (decide ((t14.getD t15.toNat (0 : Int)).toNat < h13.length)) (ix c12.At h13.length (chk (decide (c12.At.toNat < h13.length)) ((bif (decide ((h13.getD ((t14.getD t15.toNat (0 : Int)).toNat) (0 : Int)) < (h13.getD c12.At.toNat (0 : Int)))) then kxr (t14.getD t15.toNat (0 : Int)) else J (w64 (t15 + (1 : Int)))))))) else J (w64 (t15 + (1 : Int))))))))
def impl_Floor_want_L5 {R : Type} (n : Nat) (kx0 : Option R) (kxr : Int → Option R) (J : Int → Option R) (t10 : Int) (t11 : Int) (c12 : SCart) (h13 : List Int) (t14 : List Int) : Option R :=
  (bif (decide (t11 < t10)) then impl_Floor_want_k0 n kx0 kxr J t10 t11 c12 h13 t14 else kx0)
def impl_Floor_want (n : Nat) (f0 : SFloor) (c1 : SCart) : Option Int :=
  (impl_Hops n f0 c1.Goal).bind fun r1 => (bif (!r1.2) then some ((-1 : Int)) else ix c1.At r1.1.length (chk (decide (c1.At.toNat < r1.1.length)) ((bif (decide ((r1.1.getD c1.At.toNat (0 : Int)) ≤ (0 : Int))) then some ((-1 : Int)) else (impl_Floor_leads n f0 c1.At).bind fun r32 => loopN (fun (x : Int) J' => impl_Floor_want_L5 n (some ((-1 : Int))) (fun t33 => some (t33)) J' (r32.length : Int) x c1 r1.1 r32) n ((0 : Int))))))
def impl_Round_1_k0 {R : Type} (n : Nat) (kx0 : Option R) (kxr : Bool → Option R) (J : Int → Option R) (i2 : Int) (t3 : List Int) (t4 : List SCart) (w5 : Int) (t6 : List SCart) (t7 : Int) (t9 : Int) : Option R :=
  ix t9 t6.length ((bd (t6.getD t9.toNat dSCart) fun (e10 : SCart) => (bif (decide (t9 < i2)) then ix t9 t3.length ((bif (decide ((t3.getD t9.toNat (0 : Int)) = w5)) then kxr true else (bif (!(decide (t9 = i2))) then (bif (decide (e10.At = w5)) then ix t9 t3.length ((bif (decide ((t3.getD t9.toNat (0 : Int)) < (0 : Int))) then kxr true else ix t9 t3.length (ix i2 t4.length ((bd (t4.getD i2.toNat dSCart) fun (e13 : SCart) => (bif (decide ((t3.getD t9.toNat (0 : Int)) = e13.At)) then kxr true else J (w64 (t9 + (1 : Int))))))))) else J (w64 (t9 + (1 : Int)))) else J (w64 (t9 + (1 : Int)))))) else (bif (!(decide (t9 = i2))) then (bif (decide (e10.At = w5)) then ix t9 t3.length ((bif (decide ((t3.getD t9.toNat (0 : Int)) < (0 : Int))) then kxr true else ix t9 t3.length (ix i2 t4.length ((bd (t4.getD i2.toNat dSCart) fun (e24 : SCart) => (bif (decide ((t3.getD t9.toNat (0 : Int)) = e24.At)) then kxr true else J (w64 (t9 + (1 : Int))))))))) else J (w64 (t9 + (1 : Int)))) else J (w64 (t9 + (1 : Int)))))))
def impl_Round_1_L5 {R : Type} (n : Nat) (kx0 : Option R) (kxr : Bool → Option R) (J : Int → Option R) (i2 : Int) (t3 : List Int) (t4 : List SCart) (w5 : Int) (t6 : List SCart) (t7 : Int) (t8 : Int) : Option R :=
  (bif (decide (t8 < t7)) then impl_Round_1_k0 n kx0 kxr J i2 t3 t4 w5 t6 t7 t8 else kx0)
def impl_Round_1 (n : Nat) (i0 : Int) (a1 : List Int) (a2 : List SCart) : Option Bool :=
  ix i0 a1.length ((bif (decide ((a1.getD i0.toNat (0 : Int)) < (0 : Int))) then some (false) else loopN (fun (x : Int) J' => impl_Round_1_L5 n (some (false)) (fun t34 => some (t34)) J' i0 a1 a2 (a1.getD i0.toNat (0 : Int)) a2 (a2.length : Int) x) n ((0 : Int))))
def impl_own_impl_Cart (n : Nat) (l0 : List SCart) : Option (List SCart) :=
  chk (decide ((0 : Int) ≤ (l0.length : Int))) (chk (decide ((l0.length : Int) ≤ 9223372036854775807 ∧ (l0.length : Int) * (16 : Int) ≤ 281474976710656)) (chk (decide (l0.length * 16 ≤ 140737488355328)) (some (l0))))
def impl_own_int (n : Nat) (l0 : List Int) : Option (List Int) :=
  chk (decide ((0 : Int) ≤ (l0.length : Int))) (chk (decide ((l0.length : Int) ≤ 9223372036854775807 ∧ (l0.length : Int) * (8 : Int) ≤ 281474976710656)) (chk (decide (l0.length * 8 ≤ 140737488355328)) (some (l0))))
def impl_Round_L5 {R : Type} (n : Nat) (kx0 : List Int → Option R) (J : Int → List Int → Option R) (t2 : List SCart) (t3 : Int) (t4 : Int) (f5 : SFloor) (carts6 : List SCart) (c7 : List Int) : Option R :=
  (bif (decide (t4 < t3)) then ix t4 t2.length ((bd (t2.getD t4.toNat dSCart) fun (e12 : SCart) => (impl_Floor_want n f5 e12).bind fun r13 => ix t4 c7.length (chk (decide (t4.toNat < c7.length)) (J (w64 (t4 + (1 : Int))) (c7.set t4.toNat r13))))) else kx0 c7)
def impl_Round_L11 {R : Type} (n : Nat) (kx4 : Int → Option R) (J : Int → Option R) (i17 : Int) (carts18 : List SCart) (c19 : List Int) : Option R :=
  (bif (decide (i17 < (carts18.length : Int))) then (impl_Round_1 n i17 c19 carts18).bind fun r20 => (bif (!r20) then J (w64 (i17 + (1 : Int))) else kx4 i17) else kx4 i17)
def impl_Round_L10 {R : Type} (n : Nat) (kx2 : List Int → Option R) (J : List Int → Option R) (carts15 : List SCart) (c16 : List Int) : Option R :=
  loopN (fun (x : Int) J' => impl_Round_L11 n (fun i26 => (bif (decide (i26 = (carts15.length : Int))) then kx2 c16 else ix i26 c16.length (chk (decide (i26.toNat < c16.length)) ((bd (c16.set i26.toNat (-1 : Int)) fun (l30 : List Int) => J l30))))) J' x carts15 c16) n ((0 : Int))
def impl_Round_k0 {R : Type} (n : Nat) (kx6 : List SCart → List Int → Option R) (J : Int → List SCart → List Int → Option R) (t34 : Int) (t39 : Int) (l40 : List SCart) (moved41 : List Int) (t38 : List Int) : Option R :=
  ix t39 t38.length (chk (decide (t39.toNat < t38.length)) ((bif (decide ((t38.getD t39.toNat (0 : Int)) ≥ (0 : Int))) then ix t39 l40.length (chk (decide (t39.toNat < l40.length)) ((bd (l40.getD t39.toNat dSCart) fun (e42 : SCart) => (bd (l40.set t39.toNat (⟨(t38.getD t39.toNat (0 : Int)), e42.Goal⟩ : SCart)) fun (l43 : List SCart) => chk (decide ((moved41 ++ [t39]).length * 8 ≤ 140737488355328)) (J (w64 (t39 + (1 : Int))) l43 (moved41 ++ [t39])))))) else J (w64 (t39 + (1 : Int))) l40 moved41)))
def impl_Round_L18 {R : Type} (n : Nat) (kx6 : List SCart → List Int → Option R) (J : Int → List SCart → List Int → Option R) (t34 : Int) (t35 : Int) (l36 : List SCart) (moved37 : List Int) (t38 : List Int) : Option R :=
  (bif (decide (t35 < t34)) then impl_Round_k0 n kx6 J t34 t35 l36 moved37 t38 else kx6 l36 moved37)
def impl_Round_k1 (n : Nat)  (f0 : SFloor) (carts1 : List SCart) : Option (List SCart × List Int × Bool) :=
  chk (decide ((0 : Int) ≤ (carts1.length : Int))) (chk (decide ((carts1.length : Int) ≤ (carts1.length : Int))) (chk (decide ((carts1.length : Int) ≤ 9223372036854775807 ∧ (carts1.length : Int) * (8 : Int) ≤ 281474976710656)) (loopN (fun (x : Int × List Int) J' => impl_Round_L5 n (fun c14 => loopN (fun (x : List Int) J' => impl_Round_L10 n (fun c32 => (impl_own_impl_Cart n carts1).bind fun r33 => loopN (fun (x : Int × List SCart × List Int) J' => impl_Round_L18 n (fun l50 moved51 => (impl_own_int n moved51).bind fun r52 => some (l50, r52, true)) (fun t53 l54 moved55 => J' (t53, l54, moved55)) (c32.length : Int) x.1 x.2.1 x.2.2 c32) n ((0 : Int), r33, [])) J' carts1 x) n (c14)) (fun t57 c58 => J' (t57, c58)) carts1 (carts1.length : Int) x.1 f0 carts1 x.2) n ((0 : Int), (List.replicate (carts1.length : Int).toNat (0 : Int))))))
def impl_Round (n : Nat) (f0 : SFloor) (carts1 : List SCart) : Option (List SCart × List Int × Bool) :=
  (impl_CartsOk n f0 carts1).bind fun r1 => (bif (!r1) then some ([], [], false) else impl_Round_k1 n  f0 carts1)
def slices_Index_int_int_L2 {R : Type} (n : Nat) (kx0 : Option R) (kxr : Int → Option R) (J : Int → Option R) (s1 : List Int) (v2 : Int) (t3 : Int) (t4 : Int) : Option R :=
  (bif (decide (t4 < t3)) then ix t4 s1.length ((bif (decide (v2 = (s1.getD t4.toNat (0 : Int)))) then kxr t4 else J (w64 (t4 + (1 : Int))))) else kx0)
def slices_Index_int_int (n : Nat) (s0 : List Int) (v1 : Int) : Option Int :=
  loopN (fun (x : Int) J' => slices_Index_int_int_L2 n (some ((-1 : Int))) (fun t8 => some (t8)) J' s0 v1 (s0.length : Int) x) n ((0 : Int))
def slices_Contains_int_int (n : Nat) (s0 : List Int) (v1 : Int) : Option Bool :=
  (slices_Index_int_int n s0 v1).bind fun r1 => some ((decide (r1 ≥ (0 : Int))))
def impl_Stuck_k0 {R : Type} (n : Nat) (kx0 : List Int → Option R) (J : Int → List Int → Option R) (t3 : List SCart) (t4 : Int) (t9 : Int) (f6 : SFloor) (moved7 : List Int) (out10 : List Int) : Option R :=
  ix t9 t3.length ((bd (t3.getD t9.toNat dSCart) fun (e11 : SCart) => (impl_Hops n f6 e11.Goal).bind fun r12 => (bif r12.2 then ix e11.At r12.1.length (chk (decide (e11.At.toNat < r12.1.length)) ((bif (decide ((r12.1.getD e11.At.toNat (0 : Int)) > (0 : Int))) then (slices_Contains_int_int n moved7 t9).bind fun r13 => (bif (!r13) then chk (decide ((out10 ++ [t9]).length * 8 ≤ 140737488355328)) (J (w64 (t9 + (1 : Int))) (out10 ++ [t9])) else J (w64 (t9 + (1 : Int))) out10) else J (w64 (t9 + (1 : Int))) out10))) else J (w64 (t9 + (1 : Int))) out10)))
def impl_Stuck_L6 {R : Type} (n : Nat) (kx0 : List Int → Option R) (J : Int → List Int → Option R) (t3 : List SCart) (t4 : Int) (t5 : Int) (f6 : SFloor) (moved7 : List Int) (out8 : List Int) : Option R :=
  (bif (decide (t5 < t4)) then impl_Stuck_k0 n kx0 J t3 t4 t5 f6 moved7 out8 else kx0 out8)
def impl_Stuck (n : Nat) (f0 : SFloor) (carts1 : List SCart) : Option (List Int × Bool) :=
  (impl_Round n f0 carts1).bind fun r1 => (bif (!r1.2.2) then some ([], false) else loopN (fun (x : Int × List Int) J' => impl_Stuck_L6 n (fun out42 => (impl_own_int n out42).bind fun r43 => some (r43, true)) (fun t44 out45 => J' (t44, out45)) carts1 (carts1.length : Int) x.1 f0 r1.2.1 x.2) n ((0 : Int), []))
def laws_eqIntS_L4 {R : Type} (n : Nat) (kx0 : Option R) (kxr : Bool → Option R) (J : Int → Option R) (a1 : List Int) (b2 : List Int) (i3 : Int) : Option R :=
  (bif (decide (i3 < (a1.length : Int))) then ix i3 a1.length (ix i3 b2.length ((bif (!(decide ((a1.getD i3.toNat (0 : Int)) = (b2.getD i3.toNat (0 : Int))))) then kxr false else J (w64 (i3 + (1 : Int)))))) else kx0)
def laws_eqIntS (n : Nat) (a0 : List Int) (b1 : List Int) : Option Bool :=
  (bif (!(decide ((a0.length : Int) = (b1.length : Int)))) then some (false) else loopN (fun (x : Int) J' => laws_eqIntS_L4 n (some (true)) (fun t9 => some (t9)) J' a0 b1 x) n ((0 : Int)))
def laws_eqFloor (n : Nat) (a0 : SFloor) (b1 : SFloor) : Option Bool :=
  (bif (!(decide (a0.Wide = b1.Wide))) then some (false) else (bif (!(decide (a0.High = b1.High))) then some (false) else (laws_eqIntS n a0.Ways b1.Ways).bind fun r3 => (bif (!r3) then some (false) else some (true))))
def laws_eqCart (n : Nat) (a0 : SCart) (b1 : SCart) : Option Bool :=
  (bif (!(decide (a0.At = b1.At))) then some (false) else (bif (!(decide (a0.Goal = b1.Goal))) then some (false) else some (true)))
def laws_eqCartS_L4 {R : Type} (n : Nat) (kx0 : Option R) (kxr : Bool → Option R) (J : Int → Option R) (a1 : List SCart) (b2 : List SCart) (i3 : Int) : Option R :=
  (bif (decide (i3 < (a1.length : Int))) then ix i3 a1.length ((bd (a1.getD i3.toNat dSCart) fun (e9 : SCart) => ix i3 b2.length ((bd (b2.getD i3.toNat dSCart) fun (e10 : SCart) => (laws_eqCart n e9 e10).bind fun r11 => (bif (!r11) then kxr false else J (w64 (i3 + (1 : Int)))))))) else kx0)
def laws_eqCartS (n : Nat) (a0 : List SCart) (b1 : List SCart) : Option Bool :=
  (bif (!(decide ((a0.length : Int) = (b1.length : Int)))) then some (false) else loopN (fun (x : Int) J' => laws_eqCartS_L4 n (some (true)) (fun t15 => some (t15)) J' a0 b1 x) n ((0 : Int)))
def laws_markIntS_L2 {R : Type} (n : Nat) (kx0 : Int → List Int → Option R) (J : Int → Int → List Int → Option R) (k1 : Int) (i2 : Int) (p3 : List Int) : Option R :=
  (bif (decide (i2 < (p3.length : Int))) then ix i2 p3.length (chk (decide (i2.toNat < p3.length)) (J (w64 (k1 + (1 : Int))) (w64 (i2 + (1 : Int))) (p3.set i2.toNat k1))) else kx0 k1 p3)
def laws_markIntS (n : Nat) (a0 : List Int) (k1 : Int) : Option (Int × List Int) :=
  loopN (fun (x : Int × Int × List Int) J' => laws_markIntS_L2 n (fun k7 p8 => some (k7, p8)) (fun k9 i10 p11 => J' (k9, i10, p11)) x.1 x.2.1 x.2.2) n (k1, (0 : Int), a0)
def laws_markFloor (n : Nat) (a0 : SFloor) (k1 : Int) : Option (Int × List Int) :=
  (laws_markIntS n a0.Ways k1).bind fun r1 => some (r1.1, r1.2)
def laws_markCartS_k0 {R : Type} (n : Nat) (kx0 : Int → List SCart → Option R) (J : Int → Int → List SCart → Option R) (k4 : Int) (i5 : Int) (p6 : List SCart) : Option R :=
  ix i5 p6.length (chk (decide (i5.toNat < p6.length)) ((bd (p6.getD i5.toNat dSCart) fun (e7 : SCart) => (bd (p6.set i5.toNat (⟨k4, e7.Goal⟩ : SCart)) fun (l8 : List SCart) => ix i5 l8.length (chk (decide (i5.toNat < l8.length)) ((bd (l8.getD i5.toNat dSCart) fun (e9 : SCart) => (bd (l8.set i5.toNat (⟨e9.At, (w64 (k4 + (1 : Int)))⟩ : SCart)) fun (l10 : List SCart) => (bd (w64 ((w64 (k4 + (1 : Int))) + (1 : Int))) fun (v11 : Int) => J v11 (w64 (i5 + (1 : Int))) l10)))))))))
def laws_markCartS_L2 {R : Type} (n : Nat) (kx0 : Int → List SCart → Option R) (J : Int → Int → List SCart → Option R) (k1 : Int) (i2 : Int) (p3 : List SCart) : Option R :=
  (bif (decide (i2 < (p3.length : Int))) then laws_markCartS_k0 n kx0 J k1 i2 p3 else kx0 k1 p3)
def laws_markCartS (n : Nat) (a0 : List SCart) (k1 : Int) : Option (Int × List SCart) :=
  loopN (fun (x : Int × Int × List SCart) J' => laws_markCartS_L2 n (fun k12 p13 => some (k12, p13)) (fun k14 i15 p16 => J' (k14, i15, p16)) x.1 x.2.1 x.2.2) n (k1, (0 : Int), a0)
def laws_heldIntS_L2 {R : Type} (n : Nat) (kx0 : Int → Option R) (kxr : Int → Option R) (J : Int → Int → Option R) (a1 : List Int) (k2 : Int) (i3 : Int) : Option R :=
  (bif (decide (i3 < (a1.length : Int))) then ix i3 a1.length ((bif (!(decide ((a1.getD i3.toNat (0 : Int)) = k2))) then kxr (-1 : Int) else J (w64 (k2 + (1 : Int))) (w64 (i3 + (1 : Int))))) else kx0 k2)
def laws_heldIntS (n : Nat) (a0 : List Int) (k1 : Int) : Option Int :=
  loopN (fun (x : Int × Int) J' => laws_heldIntS_L2 n (fun k16 => some (k16)) (fun t17 => some (t17)) (fun k18 i19 => J' (k18, i19)) a0 x.1 x.2) n (k1, (0 : Int))
def laws_FnExactStuck_k0 (n : Nat)  (aCarts1 : List SCart) (w179 : Bool) (m80 : Int) (aF0 : SFloor) (t81 : List Int) (t82 : List Int) : Option Bool :=
  (laws_toFloor n aF0).bind fun r83 => (laws_toCartS n aCarts1).bind fun r84 => (impl_Stuck n r83 r84).bind fun r85 => (laws_eqIntS n r85.1 t81).bind fun r86 => (bif (!r86) then some (false) else (bif (!(r85.2 == w179)) then some (false) else (laws_heldIntS n t82 (1 : Int)).bind fun r102 => (bif (decide (r102 < (0 : Int))) then some (false) else (bif (!(decide (r102 = m80))) then some (false) else some (true)))))
def laws_FnExactStuck_k1 (n : Nat)  (aCarts1 : List SCart) (w165 : Bool) (t66 : Bool) (aF0 : SFloor) (t67 : List Int) (t68 : List Int) : Option Bool :=
  (bif t66 then some (false) else (laws_markIntS n t68 (1 : Int)).bind fun r109 => (laws_heldIntS n r109.2 (1 : Int)).bind fun r110 => (bif (decide (r110 < (0 : Int))) then some (false) else (bif (!(decide (r110 = r109.1))) then some (false) else laws_FnExactStuck_k0 n  aCarts1 w165 r109.1 aF0 t67 r109.2)))
def laws_FnExactStuck_k2 (n : Nat)  (aCarts1 : List SCart) (w148 : Bool) (g149 : Bool) (aF0 : SFloor) (t50 : List Int) (x051 : Int) (x052 : Int) (t53 : List Int) (t54 : List SCart) (t55 : List Int) : Option Bool :=
  (laws_markFloor n (⟨x051, x052, t53⟩ : SFloor) (1 : Int)).bind fun r56 => (laws_markCartS n t54 r56.1).bind fun r57 => (bif (decide (r57.1 < (0 : Int))) then some (false) else (laws_eqIntS n t55 t50).bind fun r61 => (bif (!r61) then some (false) else laws_FnExactStuck_k1 n  aCarts1 w148 (!(g149 == w148)) aF0 t50 t55))
def laws_FnExactStuck_k3 (n : Nat)  (aCarts1 : List SCart) (w128 : Bool) (g129 : Bool) (aF0 : SFloor) (t30 : List Int) (x031 : Int) (x032 : Int) (t33 : List Int) (t34 : List SCart) (t35 : List Int) : Option Bool :=
  (laws_toFloor n aF0).bind fun r36 => (laws_eqFloor n (⟨x031, x032, t33⟩ : SFloor) r36).bind fun r37 => (bif (!r37) then some (false) else (laws_toCartS n aCarts1).bind fun r120 => (laws_eqCartS n t34 r120).bind fun r121 => (bif (!r121) then some (false) else laws_FnExactStuck_k2 n  aCarts1 w128 g129 aF0 t30 x031 x032 t33 t34 t35))
def laws_FnExactStuck_k4 (n : Nat)  (aCarts1 : List SCart) (aF0 : SFloor) : Option Bool :=
  (laws_toFloor n aF0).bind fun r4 => (laws_toCartS n aCarts1).bind fun r5 => (spec_Stuck n r4 r5).bind fun r6 => (laws_toFloor n aF0).bind fun r7 => (laws_toCartS n aCarts1).bind fun r8 => (impl_Stuck n r7 r8).bind fun r9 => (laws_eqIntS n r9.1 r6.1).bind fun r10 => (bif (!r10) then some (false) else (bif (!(r9.2 == r6.2)) then some (false) else laws_FnExactStuck_k3 n  aCarts1 r6.2 r9.2 aF0 r6.1 r7.Wide r7.High r7.Ways r8 r9.1))
def laws_FnExactStuck (n : Nat) (aF0 : SFloor) (aCarts1 : List SCart) : Option Bool :=
  (laws_szFloor n aF0 (1048576 : Int)).bind fun r1 => (bif (decide (r1 < (0 : Int))) then some (true) else (laws_szCartS n aCarts1 r1).bind fun r138 => (bif (decide (r138 < (0 : Int))) then some (true) else laws_FnExactStuck_k4 n  aCarts1 aF0))
def rng (a b x : Int) : Prop := a ≤ x ∧ x ≤ b
def wfSFloor (x : SFloor) : Prop := rng (-9223372036854775808) 9223372036854775807 x.Wide ∧ rng (-9223372036854775808) 9223372036854775807 x.High ∧ (x.Ways.length ≤ 9223372036854775807 ∧ ∀ y ∈ x.Ways, rng (-9223372036854775808) 9223372036854775807 y)
def wfSCart (x : SCart) : Prop := rng (-9223372036854775808) 9223372036854775807 x.At ∧ rng (-9223372036854775808) 9223372036854775807 x.Goal
def wfSArr2_Int (x : SArr2_Int) : Prop := rng (-9223372036854775808) 9223372036854775807 x.x0 ∧ rng (-9223372036854775808) 9223372036854775807 x.x1
end Go.Sm
end

section
set_option linter.unusedSimpArgs false
set_option linter.deprecated false
set_option linter.unusedSectionVars false
set_option linter.unusedVariables false
namespace Go.Sm
/-! ### Of the words that printed functions are made of -/
theorem w64_id {x : Int} (h1 : -9223372036854775808 ≤ x) (h2 : x ≤ 9223372036854775807) : w64 x = x := by
  show (let m := x % (2 ^ 64 : Int); if (true && decide ((2 : Int) ^ 63 ≤ m)) = true then m - 2 ^ 64 else m) = x
  simp only [Bool.true_and, decide_eq_true_eq]
  split <;> omega
theorem w64_rng (x : Int) : -9223372036854775808 ≤ w64 x ∧ w64 x ≤ 9223372036854775807 := by
  show -9223372036854775808 ≤ (let m := x % (2 ^ 64 : Int); if (true && decide ((2 : Int) ^ 63 ≤ m)) = true then m - 2 ^ 64 else m) ∧ (let m := x % (2 ^ 64 : Int); if (true && decide ((2 : Int) ^ 63 ≤ m)) = true then m - 2 ^ 64 else m) ≤ 9223372036854775807
  simp only [Bool.true_and, decide_eq_true_eq]
  split <;> omega
theorem chk_of {R : Type} {b : Bool} {x : Option R} (h : b = true) : chk b x = x := by rw [h]; rfl
theorem chk_true {R : Type} {x : Option R} : chk true x = x := rfl
theorem chk_dec {R : Type} {p : Prop} [Decidable p] {x : Option R} (h : p) : chk (decide p) x = x := chk_of (decide_eq_true h)
theorem ix_of {R : Type} {i : Int} {len : Nat} {x : Option R} (h0 : 0 ≤ i) (h1 : i < (len : Int)) : ix i len x = x := by
  unfold ix
  rw [decide_eq_true h0, decide_eq_true h1]
  rfl
theorem ix_nat {R : Type} {i len : Nat} {x : Option R} (h1 : i < len) : ix (i : Int) len x = x := ix_of (by omega) (by omega)
theorem bif_dec {α : Type} {p : Prop} [Decidable p] {x y : α} : (bif decide p then x else y) = if p then x else y := by
  by_cases h : p <;> simp [h]
theorem bif_not {α : Type} {b : Bool} {x y : α} : (bif !b then x else y) = bif b then y else x := by cases b <;> rfl
theorem bif_and {α : Type} {a b : Bool} {x y : α} : (bif a && b then x else y) = bif a then (bif b then x else y) else y := by cases a <;> rfl
theorem loopN_succ {X R : Type} (b : X → (X → Option R) → Option R) (m : Nat) (x : X) : loopN b (m + 1) x = b x (loopN b m) := rfl
/-- What holds of a loop: by what is left to go. -/
theorem loopN_ind {X R : Type} {b : X → (X → Option R) → Option R} (μ : X → Nat) (I : X → Prop) (Q : X → Option R → Prop)
    (h : ∀ x J, I x → (∀ y, I y → μ y < μ x → Q y (J y)) → Q x (b x J)) : ∀ n x, I x → μ x < n → Q x (loopN b n x)
  | 0, x, hi, hm => absurd hm (Nat.not_lt_zero _)
  | n + 1, x, hi, hm => h x (loopN b n) hi fun y hy hl => loopN_ind μ I Q h n y hy (by omega)
theorem getD_eq {α : Type} {l : List α} {i : Nat} {d : α} (h : i < l.length) : l.getD i d = l[i] := by
  simp [List.getD, h]
theorem w64_succ {k : Nat} (h : k < 9223372036854775807) : w64 ((k : Int) + 1) = ((k + 1 : Nat) : Int) := by
  rw [w64_id (by omega) (by omega)]
  rfl
theorem take_succ_getD {α : Type} {l : List α} {i : Nat} {d : α} (h : i < l.length) : l.take (i + 1) = l.take i ++ [l.getD i d] := by
  rw [List.take_succ, getD_eq h, List.getElem?_eq_getElem h]
  rfl
theorem drop_getD {α : Type} {l : List α} {i : Nat} {d : α} (h : i < l.length) : l.drop i = l.getD i d :: l.drop (i + 1) := by
  rw [getD_eq h]
  exact List.drop_eq_getElem_cons h
theorem bd_eq {α β : Type} (e : α) (f : α → β) : bd e f = f e := rfl
theorem bd_set {α β : Type} {Q : β → Prop} {F : List α → β} {p : List α} {i : Nat} {x : α} (h : ∀ l : List α, l.length = p.length → Q (F l)) : Q (bd (p.set i x) F) := h _ (by simp)
theorem bd_is {α β : Type} {Q : β → Prop} {F : α → β} {e : α} (h : ∀ v : α, v = e → Q (F v)) : Q (bd e F) := h _ rfl
theorem bd_val {α β : Type} {Q : β → Prop} {F : α → β} {e : α} (h : ∀ v : α, Q (F v)) : Q (bd e F) := h _
theorem chk_q {R : Type} {Q : Option R → Prop} {b : Bool} {x : Option R} (h : b = true) (hx : Q x) : Q (chk b x) := by rw [chk_of h]; exact hx
theorem ix_q {R : Type} {Q : Option R → Prop} {i : Int} {len : Nat} {x : Option R} (h0 : 0 ≤ i) (h1 : i < (len : Int)) (hx : Q x) : Q (ix i len x) := by rw [ix_of h0 h1]; exact hx
theorem bd_upd {α β : Type} {Q : β → Prop} {F : List α → β} {p : List α} {i : Nat} {x d : α} (hi : i < p.length) (h : ∀ l : List α, l.length = p.length → l.getD i d = x → (∀ j, j ≠ i → l.getD j d = p.getD j d) → Q (F l)) : Q (bd (p.set i x) F) :=
  h _ (by simp) (by simp [List.getD, hi]) (fun j hj => by simp [List.getD, List.getElem?_set, Ne.symm hj])
/-- A list written from the front. -/
theorem set_take {α : Type} {a : List α} {d : α} {m k : Nat} (h : k < a.length) (hm : m = a.length := by rfl) : (a.take k ++ (List.replicate m d).drop k).set k (a.getD k d) = a.take (k + 1) ++ (List.replicate m d).drop (k + 1) := by
  subst hm
  have h1 : (a.take k).length = k := by simp; omega
  rw [List.set_append_right _ _ (by omega), h1, Nat.sub_self, take_succ_getD h, List.append_assoc]
  congr 1
  rw [List.drop_eq_getElem_cons (by simp; exact h)]
  rfl
/-! ### Loops over 0 .. len, by what is left -/
/-- Steps k, k+1, .. told one after the other; J: what comes behind a step. -/
def forK {S R : Type} (step : Nat → S → (S → Option R) → Option R) (fin : S → Option R) : Nat → Nat → S → Option R
  | 0, _, s => fin s
  | m + 1, k, s => step k s fun s' => forK step fin m (k + 1) s'
theorem loop_forK {X S R : Type} {b : X → (X → Option R) → Option R} {enc : Nat → S → X} {len : Nat} {step : Nat → S → (S → Option R) → Option R} {fin : S → Option R} (I : Nat → S → Prop)
    (hstep : ∀ k s J J', k < len → I k s → (∀ s', I (k + 1) s' → J (enc (k + 1) s') = J' s') → b (enc k s) J = step k s J') (hfin : ∀ s J, I len s → b (enc len s) J = fin s) :
    ∀ m k s n, k + m = len → m < n → I k s → loopN b n (enc k s) = forK step fin m k s
  | 0, k, s, 0, _, h, _ => absurd h (Nat.lt_irrefl _)
  | 0, k, s, n + 1, hk, _, hi => by
    have hk : k = len := by omega
    subst hk
    exact hfin s _ hi
  | m + 1, k, s, 0, _, h, _ => absurd h (Nat.not_lt_zero _)
  | m + 1, k, s, n + 1, hk, hn, hi => by
    show b (enc k s) (loopN b n) = step k s fun s' => forK step fin m (k + 1) s'
    exact hstep k s _ _ (by omega) hi fun s' hi' => loop_forK I hstep hfin m (k + 1) s' n (by omega) (by omega) hi'
/-- The first k at which f answers; at none: z. -/
def scanK {R : Type} (f : Nat → Option (Option R)) (z : Option R) : Nat → Nat → Option R
  | 0, _ => z
  | m + 1, k => match f k with
    | some r => r
    | none => scanK f z m (k + 1)
theorem loop_scan {X R : Type} {b : X → (X → Option R) → Option R} {enc : Nat → X} {len : Nat} {f : Nat → Option (Option R)} {z : Option R}
    (hstep : ∀ k J, k < len → b (enc k) J = match f k with | some r => r | none => J (enc (k + 1))) (hfin : ∀ J, b (enc len) J = z) :
    ∀ m k n, k + m = len → m < n → loopN b n (enc k) = scanK f z m k
  | 0, k, 0, _, h => absurd h (Nat.lt_irrefl _)
  | 0, k, n + 1, hk, _ => by
    have hk : k = len := by omega
    subst hk
    exact hfin _
  | m + 1, k, 0, _, h => absurd h (Nat.not_lt_zero _)
  | m + 1, k, n + 1, hk, hn => by
    show b (enc k) (loopN b n) = _
    rw [hstep k _ (by omega)]
    unfold scanK
    cases f k with
    | some r => rfl
    | none => exact loop_scan hstep hfin m (k + 1) n (by omega) (by omega)
/-- Is p so of all of k, .. k + m - 1? -/
theorem scan_all {R : Type} {p : Nat → Bool} {r z : Option R} : ∀ m k, scanK (fun k => bif p k then none else some r) z m k = bif (List.range' k m).all p then z else r
  | 0, k => rfl
  | m + 1, k => by
    rw [scanK, List.range'_succ, List.all_cons]
    cases h : p k with
    | true => simp only [cond_true, Bool.true_and]; exact scan_all m (k + 1)
    | false => rfl
theorem scan_any {R : Type} {p : Nat → Bool} {r z : Option R} : ∀ m k, scanK (fun k => bif p k then some r else none) z m k = bif (List.range' k m).any p then r else z
  | 0, k => rfl
  | m + 1, k => by
    rw [scanK, List.range'_succ, List.any_cons]
    cases h : p k with
    | false => simp only [cond_false, Bool.false_or]; exact scan_any m (k + 1)
    | true => rfl
theorem mgetI_mputI {β : Type} (l : List (Int × β)) (n m : Int) (v : β) : mgetI (mputI l n v) m = if m = n then some v else mgetI l m := by
  unfold mgetI mputI
  induction l with
  | nil =>
    by_cases h : m = n <;> simp [h]
  | cons a l ih =>
    rw [List.findIdx?_cons]
    by_cases h : n = a.1
    · simp only [h, decide_true, if_true, Option.elim_some, List.set_cons_zero, List.find?_cons]
      by_cases h2 : m = a.1
      · simp [h2]
      · simp [h2]
    · simp only [h, decide_false, Bool.false_eq_true, if_false]
      cases hf : l.findIdx? (fun e => decide (n = e.1)) with
      | none =>
        rw [hf] at ih
        simp only [Option.elim_none] at ih
        simp only [Option.map_none, Option.elim_none, List.cons_append, List.find?_cons]
        by_cases h2 : m = a.1
        · have : m ≠ n := fun e => h (e ▸ h2)
          simp [h2]
          simp [h2] at this
          simp [this]
        · simp only [h2, decide_false]
          exact ih
      | some i =>
        rw [hf] at ih
        simp only [Option.elim_some] at ih
        simp only [Option.map_some, Option.elim_some, List.set_cons_succ, List.find?_cons]
        by_cases h2 : m = a.1
        · have : m ≠ n := fun e => h (e ▸ h2)
          simp [h2]
          simp [h2] at this
          simp [this]
        · simp only [h2, decide_false]
          exact ih
theorem mgetI_nil {β : Type} (m : Int) : mgetI ([] : List (Int × β)) m = none := rfl
/-! ### Chains of tests -/
theorem bif_and' {α : Type} {a b : Bool} {x y : α} : (bif a then (bif b then x else y) else y) = bif a && b then x else y := by cases a <;> rfl
theorem bif_or' {α : Type} {a b : Bool} {x y : α} : (bif a then y else (bif b then x else y)) = bif !a && b then x else y := by cases a <;> rfl
theorem bif_and2 {α : Type} {a b : Bool} {x y : α} : (bif a then (bif b then y else x) else y) = bif a && !b then x else y := by cases a <;> cases b <;> rfl
theorem bif_or2 {α : Type} {a b : Bool} {x y : α} : (bif a then y else (bif b then y else x)) = bif !a && !b then x else y := by cases a <;> cases b <;> rfl
theorem bif_some {α β : Type} {a : Bool} {x y : α} {f : α → Option β} : (bif a then some x else some y).bind f = bif a then f x else f y := by cases a <;> rfl
theorem bif_tf {a : Bool} : (bif a then some true else some false) = some a := by cases a <;> rfl
theorem bif_ft {a : Bool} : (bif a then some false else some true) = some (!a) := by cases a <;> rfl
theorem bif_sf {a b : Bool} : (bif a then some b else some false) = some (a && b) := by cases a <;> rfl
theorem all_range_succ {p : Nat → Bool} {k : Nat} : (List.range (k + 1)).all p = ((List.range k).all p && p k) := by
  rw [List.range_succ, List.all_append]
  simp
theorem any_range_succ {p : Nat → Bool} {k : Nat} : (List.range (k + 1)).any p = ((List.range k).any p || p k) := by
  rw [List.range_succ, List.any_append]
  simp
theorem all_range_not {p : Nat → Bool} {k m : Nat} (hk : k < m) (h : p k = false) : (List.range m).all p = false := by
  rw [Bool.eq_false_iff]
  intro e
  rw [List.all_eq_true] at e
  rw [e k (List.mem_range.2 hk)] at h
  cases h
theorem any_range_of {p : Nat → Bool} {k m : Nat} (hk : k < m) (h : p k = true) : (List.range m).any p = true := by
  rw [List.any_eq_true]
  exact ⟨k, List.mem_range.2 hk, h⟩
/-- A loop that looks at k = 0, 1, .. and leaves at the first that is not so. -/
theorem loop_all {R : Type} {b : Int → (Int → Option R) → Option R} {len : Nat} {p : Nat → Bool} {no yes : Option R} (hlen : len ≤ 9223372036854775807)
    (hstep : ∀ (k : Nat) (J : Int → Option R), k < len → (∀ j, j < k → p j = true) → b (k : Int) J = bif p k then J ((k + 1 : Nat) : Int) else no) (hfin : ∀ J, (∀ j, j < len → p j = true) → b (len : Int) J = yes) {n : Nat} (hn : len < n) :
    loopN b n (0 : Int) = bif (List.range len).all p then yes else no := by
  refine loopN_ind (fun x => len - x.toNat) (fun x => ∃ k : Nat, k ≤ len ∧ x = (k : Int) ∧ (List.range k).all p = true) (fun x r => r = bif (List.range len).all p then yes else no) ?_ n _ ⟨0, by omega, rfl, rfl⟩ (by simp; omega)
  rintro _ J ⟨k, hk, rfl, hb⟩ ih
  have hb' : ∀ j, j < k → p j = true := fun j hj => List.all_eq_true.1 hb j (List.mem_range.2 hj)
  by_cases h : k < len
  · rw [hstep k J h hb']
    cases hp : p k with
    | true => exact ih _ ⟨k + 1, h, rfl, by rw [all_range_succ, hb, hp]; rfl⟩ (by simp; omega)
    | false => rw [all_range_not h hp]; rfl
  · have : k = len := by omega
    subst this
    rw [hfin _ hb', hb]
    rfl
/-- The same, a state turned on the way (its invariant: I). -/
theorem loop_allS {S R : Type} {X : Type} {enc : Int → S → X} {b : X → (X → Option R) → Option R} {len : Nat} {p : Nat → Bool} {I : Nat → S → Prop} {no yes : Option R}
    (hstep : ∀ (k : Nat) (s : S) (J : X → Option R), k < len → I k s → (∀ j, j < k → p j = true) → ∃ s', (p k = true → I (k + 1) s') ∧ b (enc (k : Int) s) J = bif p k then J (enc ((k + 1 : Nat) : Int) s') else no) (hfin : ∀ s J, I len s → (∀ j, j < len → p j = true) → b (enc (len : Int) s) J = yes) {n : Nat} (hn : len < n) {s0 : S} (h0 : I 0 s0) :
    loopN b n (enc (0 : Int) s0) = bif (List.range len).all p then yes else no := by
  have key : ∀ m (k : Nat) (s : S) n, k + m = len → m < n → I k s → (List.range k).all p = true → loopN b n (enc (k : Int) s) = bif (List.range len).all p then yes else no := by
    intro m
    induction m with
    | zero =>
      intro k s n hk hn hi hb
      have hb' : ∀ j, j < k → p j = true := fun j hj => List.all_eq_true.1 hb j (List.mem_range.2 hj)
      have hk : k = len := by omega
      subst hk
      cases n with
      | zero => omega
      | succ n => rw [loopN_succ, hfin s _ hi hb', hb]; rfl
    | succ m ih =>
      intro k s n hk hn hi hb
      have hb' : ∀ j, j < k → p j = true := fun j hj => List.all_eq_true.1 hb j (List.mem_range.2 hj)
      cases n with
      | zero => omega
      | succ n =>
        rw [loopN_succ]
        obtain ⟨s', h1, h2⟩ := hstep k s (loopN b n) (by omega) hi hb'
        rw [h2]
        cases hp : p k with
        | true => exact ih (k + 1) s' n (by omega) (by omega) (h1 hp) (by rw [all_range_succ, hb, hp]; rfl)
        | false => rw [all_range_not (by omega : k < len) hp]; rfl
  exact key len 0 s0 n (by omega) hn h0 rfl
/-- A loop over 0 .. len that never leaves early; its state: I. -/
theorem loop_runS {S R : Type} {X : Type} {enc : Int → S → X} {b : X → (X → Option R) → Option R} {len : Nat} {I : Nat → S → Prop} {Q : Option R → Prop}
    (hstep : ∀ (k : Nat) (s : S) (J : X → Option R), k < len → I k s → ∃ s', I (k + 1) s' ∧ b (enc (k : Int) s) J = J (enc ((k + 1 : Nat) : Int) s')) (hfin : ∀ s J, I len s → Q (b (enc (len : Int) s) J)) {n : Nat} (hn : len < n) {s0 : S} (h0 : I 0 s0) :
    Q (loopN b n (enc (0 : Int) s0)) := by
  have key : ∀ m (k : Nat) (s : S) n, k + m = len → m < n → I k s → Q (loopN b n (enc (k : Int) s)) := by
    intro m
    induction m with
    | zero =>
      intro k s n hk hn hi
      have hk : k = len := by omega
      subst hk
      cases n with
      | zero => omega
      | succ n => rw [loopN_succ]; exact hfin s _ hi
    | succ m ih =>
      intro k s n hk hn hi
      cases n with
      | zero => omega
      | succ n =>
        rw [loopN_succ]
        obtain ⟨s', h1, h2⟩ := hstep k s (loopN b n) (by omega) hi
        rw [h2]
        exact ih (k + 1) s' n (by omega) (by omega) h1
  exact key len 0 s0 n (by omega) hn h0
/-! ### Sums over lists -/
def sumOf {α : Type} (f : α → Nat) : List α → Nat
  | [] => 0
  | a :: l => f a + sumOf f l
theorem sumOf_append {α : Type} (f : α → Nat) : ∀ a b : List α, sumOf f (a ++ b) = sumOf f a + sumOf f b
  | [], b => by simp [sumOf]
  | x :: a, b => by simp only [List.cons_append, sumOf, sumOf_append f a b]; omega
theorem sumOf_take_succ {α : Type} {f : α → Nat} {l : List α} {k : Nat} {d : α} (h : k < l.length) : sumOf f (l.take (k + 1)) = sumOf f (l.take k) + f (l.getD k d) := by
  rw [take_succ_getD (d := d) h, sumOf_append]
  simp [sumOf]
theorem sumOf_take_le {α : Type} (f : α → Nat) (l : List α) (k : Nat) : sumOf f (l.take k) ≤ sumOf f l := by
  have := sumOf_append f (l.take k) (l.drop k)
  rw [List.take_append_drop] at this
  omega
theorem sumOf_mem {α : Type} {f : α → Nat} {l : List α} {k : Nat} {d : α} (h : k < l.length) : f (l.getD k d) ≤ sumOf f l := by
  have h1 := sumOf_take_succ (f := f) (d := d) h
  have h2 := sumOf_take_le f l (k + 1)
  omega
theorem sumOf_lin {α : Type} {f g : α → Nat} {c s : Nat} (h : ∀ y, f y ≤ c * g y + s) : ∀ l : List α, sumOf f l ≤ c * sumOf g l + s * l.length
  | [] => by simp [sumOf]
  | a :: l => by
    have h1 := h a
    have h2 := sumOf_lin h l
    simp only [sumOf, List.length_cons, Nat.mul_add, Nat.mul_succ]
    omega
theorem sumOf_const {α : Type} (c : Nat) : ∀ l : List α, sumOf (fun _ => c) l = c * l.length
  | [] => by simp [sumOf]
  | a :: l => by simp only [sumOf, sumOf_const c l, List.length_cons, Nat.mul_succ]; omega
theorem getD_set {α : Type} {l : List α} {k : Nat} {x d : α} (h : k < l.length) : (l.set k x).getD k d = x := by simp [List.getD, h]
theorem getD_set_ne {α : Type} {l : List α} {k j : Nat} {x d : α} (h : j ≠ k) : (l.set k x).getD j d = l.getD j d := by simp [List.getD, List.getElem?_set, Ne.symm h]
theorem getD_mem {α : Type} {l : List α} {k : Nat} {d : α} (h : k < l.length) : l.getD k d ∈ l := by rw [getD_eq h]; exact List.getElem_mem h
theorem take_drop_set {α : Type} {a : List α} {d : α} {m k : Nat} {x : α} (h : k < a.length) (hm : m = a.length) (hx : x = a.getD k d) : (a.take k ++ (List.replicate m d).drop k).set k x = a.take (k + 1) ++ (List.replicate m d).drop (k + 1) := by
  subst hx
  exact set_take h hm
/-! ### The first that is so -/
def idxOf (p : Nat → Bool) (m : Nat) : Int := match (List.range m).find? p with
  | some k => (k : Int)
  | none => -1
theorem find_range_none {p : Nat → Bool} {m : Nat} (h : ∀ j, j < m → p j = false) : (List.range m).find? p = none := by
  rw [List.find?_eq_none]
  intro x hx
  rw [h x (List.mem_range.1 hx)]
  simp
theorem find_range_some {p : Nat → Bool} {m k : Nat} (hk : k < m) (hp : p k = true) (h : ∀ j, j < k → p j = false) : (List.range m).find? p = some k := by
  have e : m = k + (m - k) := by omega
  rw [e, List.range_add, List.find?_append, find_range_none h, Option.none_or]
  obtain ⟨r, hr⟩ : ∃ r, m - k = r + 1 := ⟨m - k - 1, by omega⟩
  rw [hr, List.range_succ_eq_map]
  simp [hp]
theorem idxOf_ge (p : Nat → Bool) (m : Nat) : decide (idxOf p m ≥ 0) = (List.range m).any p := by
  unfold idxOf
  cases h : (List.range m).find? p with
  | none =>
    rw [List.find?_eq_none] at h
    rw [show (List.range m).any p = false from by rw [List.any_eq_false]; exact h]
    rfl
  | some k =>
    have h1 := List.find?_some h
    rw [show (List.range m).any p = true from List.any_eq_true.2 ⟨k, List.mem_of_find?_eq_some h, h1⟩]
    exact decide_eq_true (by show (0 : Int) ≤ (k : Int); omega)
theorem idxOf_lt (p : Nat → Bool) (m : Nat) : decide (idxOf p m < 0) = !(List.range m).any p := by
  rw [← idxOf_ge]
  by_cases h : idxOf p m < 0
  · rw [decide_eq_true h, decide_eq_false (by omega)]; rfl
  · rw [decide_eq_false h, decide_eq_true (by omega)]; rfl
theorem find_range (p : Nat → Bool) : ∀ m, ((List.range m).find? p = none ∧ ∀ j, j < m → p j = false) ∨ ∃ k, (List.range m).find? p = some k ∧ k < m ∧ p k = true ∧ ∀ j, j < k → p j = false
  | 0 => .inl ⟨rfl, fun j hj => absurd hj (Nat.not_lt_zero _)⟩
  | m + 1 => by
    rcases find_range p m with ⟨h1, h2⟩ | ⟨k, h1, h2, h3, h4⟩
    · cases hp : p m with
      | true => exact .inr ⟨m, find_range_some (by omega) hp h2, by omega, hp, h2⟩
      | false =>
        have : ∀ j, j < m + 1 → p j = false := fun j hj => by
          by_cases e : j = m
          · rw [e]; exact hp
          · exact h2 j (by omega)
        exact .inl ⟨find_range_none this, this⟩
    · exact .inr ⟨k, find_range_some (by omega) h3 h4, by omega, h3, h4⟩
theorem idxOf_spec (p : Nat → Bool) (m : Nat) : (idxOf p m = -1 ∧ ∀ j, j < m → p j = false) ∨ ∃ k : Nat, idxOf p m = (k : Int) ∧ k < m ∧ p k = true ∧ ∀ j, j < k → p j = false := by
  unfold idxOf
  rcases find_range p m with ⟨h1, h2⟩ | ⟨k, h1, h2, h3, h4⟩
  · rw [h1]; exact .inl ⟨rfl, h2⟩
  · rw [h1]; exact .inr ⟨k, rfl, h2, h3, h4⟩
/-- A loop that looks at k = 0, 1, .. and leaves at the first that is so. -/
theorem loop_find {R : Type} {b : Int → (Int → Option R) → Option R} {len : Nat} {p : Nat → Bool} {yes : Nat → Option R} {no : Option R} (hlen : len ≤ 9223372036854775807)
    (hstep : ∀ (k : Nat) (J : Int → Option R), k < len → (∀ j, j < k → p j = false) → b (k : Int) J = bif p k then yes k else J ((k + 1 : Nat) : Int)) (hfin : ∀ J, (∀ j, j < len → p j = false) → b (len : Int) J = no) {n : Nat} (hn : len < n) :
    loopN b n (0 : Int) = match (List.range len).find? p with | some k => yes k | none => no := by
  refine loopN_ind (fun x => len - x.toNat) (fun x => ∃ k : Nat, k ≤ len ∧ x = (k : Int) ∧ ∀ j, j < k → p j = false) (fun x r => r = match (List.range len).find? p with | some k => yes k | none => no) ?_ n _ ⟨0, by omega, rfl, fun j hj => absurd hj (Nat.not_lt_zero _)⟩ (by simp; omega)
  rintro _ J ⟨k, hk, rfl, hb⟩ ih
  by_cases h : k < len
  · rw [hstep k J h hb]
    cases hp : p k with
    | false => exact ih _ ⟨k + 1, h, rfl, fun j hj => by
        by_cases e : j = k
        · rw [e]; exact hp
        · exact hb j (by omega)⟩ (by simp; omega)
    | true => rw [find_range_some h hp hb]; rfl
  · have : k = len := by omega
    subst this
    rw [hfin _ hb, find_range_none hb]
theorem loop_idx {b : Int → (Int → Option Int) → Option Int} {len : Nat} {p : Nat → Bool} (hlen : len ≤ 9223372036854775807)
    (hstep : ∀ (k : Nat) (J : Int → Option Int), k < len → (∀ j, j < k → p j = false) → b (k : Int) J = bif p k then some (k : Int) else J ((k + 1 : Nat) : Int)) (hfin : ∀ J, (∀ j, j < len → p j = false) → b (len : Int) J = some (-1)) {n : Nat} (hn : len < n) :
    loopN b n (0 : Int) = some (idxOf p len) := by
  rw [loop_find (yes := fun k => some (k : Int)) (no := some (-1)) hlen hstep hfin hn]
  unfold idxOf
  cases (List.range len).find? p <;> rfl
theorem byteAt_rng (s : ByteArray) (k : Nat) : 0 ≤ byteAt s k ∧ byteAt s k ≤ 255 := by
  unfold byteAt
  have := (s.data.getD k 0).toNat_lt
  omega
theorem range_any {α : Type} {l : List α} {d : α} {f : α → Bool} : (List.range l.length).any (fun k => f (l.getD k d)) = l.any f := by
  induction l with
  | nil => rfl
  | cons a l ih =>
    rw [List.length_cons, List.range_succ_eq_map, List.any_cons, List.any_map, List.any_cons, ← ih]
    rfl
theorem range_all {α : Type} {l : List α} {d : α} {f : α → Bool} : (List.range l.length).all (fun k => f (l.getD k d)) = l.all f := by
  induction l with
  | nil => rfl
  | cons a l ih =>
    rw [List.length_cons, List.range_succ_eq_map, List.all_cons, List.all_map, List.all_cons, ← ih]
    rfl
theorem all_congr_lt {p q : Nat → Bool} {m : Nat} (h : ∀ k, k < m → p k = q k) : (List.range m).all p = (List.range m).all q := by
  rw [Bool.eq_iff_iff, List.all_eq_true, List.all_eq_true]
  constructor
  · intro g x hx; rw [← h x (List.mem_range.1 hx)]; exact g x hx
  · intro g x hx; rw [h x (List.mem_range.1 hx)]; exact g x hx
theorem any_congr_lt {p q : Nat → Bool} {m : Nat} (h : ∀ k, k < m → p k = q k) : (List.range m).any p = (List.range m).any q := by
  rw [Bool.eq_iff_iff, List.any_eq_true, List.any_eq_true]
  constructor
  · rintro ⟨x, hx, g⟩; exact ⟨x, hx, by rw [← h x (List.mem_range.1 hx)]; exact g⟩
  · rintro ⟨x, hx, g⟩; exact ⟨x, hx, by rw [h x (List.mem_range.1 hx)]; exact g⟩
theorem guard_sz {w : Nat} {x : Option Bool} (h : w ≤ 1048576 → x = some true) : (bif decide ((if (w : Int) ≤ 1048576 then 1048576 - (w : Int) else -1) < 0) then some true else x) = some true := by
  by_cases c : (w : Int) ≤ 1048576
  · rw [if_pos c, decide_eq_false (by omega), cond_false]
    exact h (by omega)
  · rw [if_neg c]
    rfl
end Go.Sm
end

section
set_option linter.unusedSimpArgs false
set_option linter.deprecated false
set_option linter.unusedSectionVars false
set_option linter.unusedVariables false
set_option linter.unusedSimpArgs false
namespace Go.Sm
attribute [local irreducible] bd chk ix loopN
def w_LInt (a : List Int) : Nat := a.length
theorem laws_szIntS_ok {n : Nat} (a : List Int) {left : Int} (h : (a.length ≤ 9223372036854775807 ∧ ∀ y ∈ a, rng (-9223372036854775808) 9223372036854775807 y)) (h0 : 0 ≤ left) (h1 : left ≤ 1048576) (hn : 1000000000 < n) : laws_szIntS n a left = some (if (w_LInt a : Int) ≤ left then left - (w_LInt a : Int) else -1) := by
  have hw : w_LInt a = a.length := rfl
  unfold laws_szIntS
  rw [w64_id (by have := h.1; omega) (by omega), bd_eq, bif_dec]
  by_cases c : (a.length : Int) ≤ left
  · rw [if_neg (by omega), if_pos (by omega)]
    congr 1
  · rw [if_pos (by omega), if_neg (by omega)]
def w_SFloor (a : SFloor) : Nat := w_LInt a.Ways
theorem laws_szFloor_ok {n : Nat} (a : SFloor) {left : Int} (h : wfSFloor a) (h0 : 0 ≤ left) (h1 : left ≤ 1048576) (hn : 1000000000 < n) : laws_szFloor n a left = some (if (w_SFloor a : Int) ≤ left then left - (w_SFloor a : Int) else -1) := by
  have hw : w_SFloor a = w_LInt a.Ways := rfl
  unfold laws_szFloor
  rw [laws_szIntS_ok (n := n) a.Ways h.2.2 (by omega) (by omega) hn, Option.bind_some, bif_dec]
  by_cases c0 : (w_LInt a.Ways : Int) ≤ left
  case neg => rw [if_neg c0, if_pos (by omega), if_neg (by omega)]
  rw [if_pos c0, if_neg (by omega)]
  rw [if_pos (by omega)]
  try (refine congrArg some ?_; omega)
def w_LSCart (a : List SCart) : Nat := a.length
theorem laws_szCartS_ok {n : Nat} (a : List SCart) {left : Int} (h : (a.length ≤ 9223372036854775807 ∧ ∀ y ∈ a, wfSCart y)) (h0 : 0 ≤ left) (h1 : left ≤ 1048576) (hn : 1000000000 < n) : laws_szCartS n a left = some (if (w_LSCart a : Int) ≤ left then left - (w_LSCart a : Int) else -1) := by
  have hw : w_LSCart a = a.length := rfl
  unfold laws_szCartS
  rw [w64_id (by have := h.1; omega) (by omega), bd_eq, bif_dec]
  by_cases c : (a.length : Int) ≤ left
  · rw [if_neg (by omega), if_pos (by omega)]
    congr 1
  · rw [if_pos (by omega), if_neg (by omega)]
theorem laws_toIntS_ok {n : Nat} (a : List Int) (hb : w_LInt a ≤ 100000000) (hn : 1000000000 < n) : laws_toIntS n a = some a := by
  have hw0 : a.length ≤ 100000000 := by have hw : w_LInt a = a.length := rfl; omega
  unfold laws_toIntS
  rw [chk_dec (by omega), chk_dec (by omega), chk_dec (by omega)]
  refine loopN_ind (fun x => a.length - x.1.toNat) (fun x => ∃ k : Nat, k ≤ a.length ∧ x = ((k : Int), a.take k ++ (List.replicate a.length (0 : Int)).drop k)) (fun x r => r = some a) ?_ n _ ⟨0, by omega, by simp⟩ (by simp; omega)
  rintro _ J ⟨k, hk, rfl⟩ ih
  unfold laws_toIntS_L3
  dsimp only
  have hl : (a.take k ++ (List.replicate a.length (0 : Int)).drop k).length = a.length := by simp; omega
  by_cases h : k < a.length
  · have g := ih (((k + 1 : Nat) : Int), a.take (k + 1) ++ (List.replicate a.length (0 : Int)).drop (k + 1)) ⟨k + 1, h, rfl⟩ (by simp; omega)
    have hk2 : k < (a.take k ++ (List.replicate a.length (0 : Int)).drop k).length := by omega
    simp only [Int.ofNat_lt, h, hk2, decide_true, cond_true, ix_nat h, ix_nat hk2, chk_of, bd_eq, Option.bind_some, Int.toNat_natCast, w64_succ (show k < 9223372036854775807 by omega)]
    rw [take_drop_set (d := (0 : Int)) h rfl rfl]
    exact g
  · have : k = a.length := by omega
    subst this
    simp
theorem laws_toFloor_ok {n : Nat} (a : SFloor) (h : w_SFloor a ≤ 100000000) (hn : 1000000000 < n) : laws_toFloor n a = some a := by
  have hw : w_SFloor a = w_LInt a.Ways := rfl
  simp [laws_toFloor, laws_toIntS_ok (n := n) a.Ways (by omega) hn]
theorem laws_toCart_ok (n : Nat) (a : SCart) : laws_toCart n a = some a := by simp [laws_toCart]
theorem laws_toCartS_ok {n : Nat} (a : List SCart) (hb : w_LSCart a ≤ 100000000) (hn : 1000000000 < n) : laws_toCartS n a = some a := by
  have hw0 : a.length ≤ 100000000 := by have hw : w_LSCart a = a.length := rfl; omega
  unfold laws_toCartS
  rw [chk_dec (by omega), chk_dec (by omega), chk_dec (by omega)]
  refine loopN_ind (fun x => a.length - x.1.toNat) (fun x => ∃ k : Nat, k ≤ a.length ∧ x = ((k : Int), a.take k ++ (List.replicate a.length dSCart).drop k)) (fun x r => r = some a) ?_ n _ ⟨0, by omega, by simp⟩ (by simp; omega)
  rintro _ J ⟨k, hk, rfl⟩ ih
  unfold laws_toCartS_L3
  dsimp only
  have hl : (a.take k ++ (List.replicate a.length dSCart).drop k).length = a.length := by simp; omega
  by_cases h : k < a.length
  · have g := ih (((k + 1 : Nat) : Int), a.take (k + 1) ++ (List.replicate a.length dSCart).drop (k + 1)) ⟨k + 1, h, rfl⟩ (by simp; omega)
    have hk2 : k < (a.take k ++ (List.replicate a.length dSCart).drop k).length := by omega
    simp only [Int.ofNat_lt, h, hk2, decide_true, cond_true, ix_nat h, ix_nat hk2, chk_of, bd_eq, Option.bind_some, Int.toNat_natCast, w64_succ (show k < 9223372036854775807 by omega), laws_toCart_ok]
    rw [take_drop_set (d := dSCart) h rfl rfl]
    exact g
  · have : k = a.length := by omega
    subst this
    simp
theorem laws_eqIntS_ok {n : Nat} (a : List Int) (hb : w_LInt a ≤ 100000000) (hn : 1000000000 < n) : laws_eqIntS n a a = some true := by
  have hw0 : a.length ≤ 100000000 := by have hw : w_LInt a = a.length := rfl; omega
  unfold laws_eqIntS
  simp only [decide_true, Bool.not_true, cond_false]
  refine loopN_ind (fun x => a.length - x.toNat) (fun x => ∃ k : Nat, k ≤ a.length ∧ x = (k : Int)) (fun x r => r = some true) ?_ n _ ⟨0, by omega, rfl⟩ (by simp; omega)
  rintro _ J ⟨k, hk, rfl⟩ ih
  unfold laws_eqIntS_L4
  by_cases h : k < a.length
  · have g := ih ((k + 1 : Nat) : Int) ⟨k + 1, h, rfl⟩ (by simp; omega)
    simp only [Int.ofNat_lt, h, decide_true, cond_true, ix_nat h, Bool.not_true, cond_false, bd_eq, Option.bind_some, beq_self_eq_true, Int.toNat_natCast, w64_succ (show k < 9223372036854775807 by omega)]
    exact g
  · simp [h]
theorem laws_eqFloor_ok {n : Nat} (a : SFloor) (h : w_SFloor a ≤ 100000000) (hn : 1000000000 < n) : laws_eqFloor n a a = some true := by
  have hw : w_SFloor a = w_LInt a.Ways := rfl
  simp [laws_eqFloor, laws_eqIntS_ok (n := n) a.Ways (by omega) hn]
theorem laws_eqCart_ok (n : Nat) (a : SCart) : laws_eqCart n a a = some true := by simp [laws_eqCart]
theorem laws_eqCartS_ok {n : Nat} (a : List SCart) (hb : w_LSCart a ≤ 100000000) (hn : 1000000000 < n) : laws_eqCartS n a a = some true := by
  have hw0 : a.length ≤ 100000000 := by have hw : w_LSCart a = a.length := rfl; omega
  unfold laws_eqCartS
  simp only [decide_true, Bool.not_true, cond_false]
  refine loopN_ind (fun x => a.length - x.toNat) (fun x => ∃ k : Nat, k ≤ a.length ∧ x = (k : Int)) (fun x r => r = some true) ?_ n _ ⟨0, by omega, rfl⟩ (by simp; omega)
  rintro _ J ⟨k, hk, rfl⟩ ih
  unfold laws_eqCartS_L4
  by_cases h : k < a.length
  · have g := ih ((k + 1 : Nat) : Int) ⟨k + 1, h, rfl⟩ (by simp; omega)
    simp only [Int.ofNat_lt, h, decide_true, cond_true, ix_nat h, Bool.not_true, cond_false, bd_eq, Option.bind_some, beq_self_eq_true, Int.toNat_natCast, w64_succ (show k < 9223372036854775807 by omega), laws_eqCart_ok]
    exact g
  · simp [h]
def Mk_LInt (n : Nat) (k : Int) (a x : Int) : Prop := x = k
def n_LInt (a : List Int) : Nat := sumOf (fun y => 1) a
theorem n_LInt_eq (a : List Int) : n_LInt a = 1 * a.length := sumOf_const 1 a
theorem n_LInt_le (a : List Int) : n_LInt a ≤ 1 * w_LInt a := by
  have h := n_LInt_eq a
  have h2 : w_LInt a = a.length := rfl
  omega
theorem laws_markIntS_i {n : Nat} (a : List Int) (k0 : Int) (hk0 : 0 ≤ k0) (hb : k0 + ((n_LInt a : Nat) : Int) ≤ 900000000) (hw : w_LInt a ≤ 100000000) (hn : 1000000000 < n) :
    ∃ p : List Int, laws_markIntS n a k0 = some (k0 + ((n_LInt a : Nat) : Int), p) ∧ p.length = a.length ∧ ∀ i, i < a.length → Mk_LInt n (k0 + ((sumOf (fun y => 1) (a.take i) : Nat) : Int)) (a.getD i (0 : Int)) (p.getD i (0 : Int)) := by
  have hw0 : a.length ≤ 100000000 := by have hw : w_LInt a = a.length := rfl; omega
  have hnA : n_LInt a = sumOf (fun y => 1) a := rfl
  unfold laws_markIntS
  refine loopN_ind (fun x => a.length - x.2.1.toNat) (fun x => ∃ (k : Nat) (p : List Int), k ≤ a.length ∧ x = (k0 + ((sumOf (fun y => 1) (a.take k) : Nat) : Int), (k : Int), p) ∧ p.length = a.length ∧
      (∀ i, i < k → Mk_LInt n (k0 + ((sumOf (fun y => 1) (a.take i) : Nat) : Int)) (a.getD i (0 : Int)) (p.getD i (0 : Int))) ∧ ∀ i, k ≤ i → p.getD i (0 : Int) = a.getD i (0 : Int))
    (fun x r => ∃ p : List Int, r = some (k0 + ((n_LInt a : Nat) : Int), p) ∧ p.length = a.length ∧ ∀ i, i < a.length → Mk_LInt n (k0 + ((sumOf (fun y => 1) (a.take i) : Nat) : Int)) (a.getD i (0 : Int)) (p.getD i (0 : Int))) ?_ n _ ⟨0, a, by omega, by simp [sumOf], rfl, by omega, fun _ _ => rfl⟩ (by simp; omega)
  rintro _ J ⟨k, p, hk, rfl, hp, hm, hrest⟩ ih
  by_cases h : k < a.length
  · have h' : k < p.length := by omega
    have s1 := sumOf_take_succ (f := fun y => 1) (d := (0 : Int)) h
    have s2 := sumOf_take_le (fun y => 1) a (k + 1)
    try simp only at s1
    obtain ⟨kk, hkk⟩ : ∃ kk : Int, kk = k0 + ((sumOf (fun y => 1) (a.take k) : Nat) : Int) := ⟨_, rfl⟩
    have hpk := hrest k (Nat.le_refl _)
    have step : ∀ (K : Int → List Int → Option (Int × List Int)) (J : Int → Int → List Int → Option (Int × List Int)), laws_markIntS_L2 n K J kk (k : Int) p = J (kk + 1) ((k : Int) + 1) (p.set k (kk)) := fun K J => by
      unfold laws_markIntS_L2
      simp (disch := omega) only [Int.ofNat_lt, h', decide_true, cond_true, ix_nat h', List.length_set, chk_of, chk_true, bd_eq, getD_set h', List.set_set, hpk, Int.toNat_natCast, w64_id, Int.add_assoc, Int.reduceAdd, Option.bind_some]
    dsimp only
    rw [← hkk]
    refine (congrArg (fun z => ∃ q : List Int, z = some (k0 + ((n_LInt a : Nat) : Int), q) ∧ q.length = a.length ∧ ∀ i, i < a.length → Mk_LInt n (k0 + ((sumOf (fun y => 1) (a.take i) : Nat) : Int)) (a.getD i (0 : Int)) (q.getD i (0 : Int))) (step _ _)).mpr ?_
    refine ih _ ⟨k + 1, _, h, Prod.ext (by dsimp only; omega) (Prod.ext (by dsimp only; omega) rfl), by simpa using hp, fun i hi => ?_, fun i hi => ?_⟩ (by dsimp only; omega)
    · by_cases e : i = k
      · subst e
        rw [getD_set h', ← hkk]
        unfold Mk_LInt
        exact rfl
      · rw [getD_set_ne e]
        exact hm i (by omega)
    · rw [getD_set_ne (by omega)]
      exact hrest i (by omega)
  · have : k = a.length := by omega
    subst this
    unfold laws_markIntS_L2
    simp only [hp, Int.lt_irrefl, decide_false, cond_false]
    rw [List.take_length]
    exact ⟨p, rfl, hp, hm⟩
theorem laws_heldIntS_i {n : Nat} (a p : List Int) (hp : p.length = a.length) (k0 : Int) (hk0 : 0 ≤ k0) (hb : k0 + ((n_LInt a : Nat) : Int) ≤ 900000000) (hw : w_LInt a ≤ 100000000) (hn : 1000000000 < n)
    (hm : ∀ i, i < a.length → Mk_LInt n (k0 + ((sumOf (fun y => 1) (a.take i) : Nat) : Int)) (a.getD i (0 : Int)) (p.getD i (0 : Int))) : laws_heldIntS n p k0 = some (k0 + ((n_LInt a : Nat) : Int)) := by
  have hw0 : a.length ≤ 100000000 := by have hw : w_LInt a = a.length := rfl; omega
  have hnA : n_LInt a = sumOf (fun y => 1) a := rfl
  unfold laws_heldIntS
  refine loopN_ind (fun x => a.length - x.2.toNat) (fun x => ∃ (k : Nat), k ≤ a.length ∧ x = (k0 + ((sumOf (fun y => 1) (a.take k) : Nat) : Int), (k : Int)))
    (fun x r => r = some (k0 + ((n_LInt a : Nat) : Int))) ?_ n _ ⟨0, by omega, by simp [sumOf]⟩ (by simp; omega)
  rintro _ J ⟨k, hk, rfl⟩ ih
  by_cases h : k < a.length
  · have h' : k < p.length := by omega
    have s1 := sumOf_take_succ (f := fun y => 1) (d := (0 : Int)) h
    have s2 := sumOf_take_le (fun y => 1) a (k + 1)
    try simp only at s1
    have hmk := hm k h
    unfold Mk_LInt at hmk
    obtain ⟨kk, hkk⟩ : ∃ kk : Int, kk = k0 + ((sumOf (fun y => 1) (a.take k) : Nat) : Int) := ⟨_, rfl⟩
    rw [← hkk] at hmk
    try simp (disch := omega) only [Int.add_assoc, Int.reduceAdd] at hmk
    have e0 := hmk
    have step : ∀ (K K2 : Int → Option Int) (J : Int → Int → Option Int), laws_heldIntS_L2 n K K2 J p kk (k : Int) = J (kk + 1) ((k : Int) + 1) := fun K K2 J => by
      unfold laws_heldIntS_L2
      simp (disch := omega) only [Int.ofNat_lt, h', decide_true, cond_true, ix_nat h', bd_eq, Int.toNat_natCast, w64_id, Int.add_assoc, Int.reduceAdd, Option.bind_some, Bool.not_true, cond_false, beq_self_eq_true, decide_eq_false_iff_not, Int.not_lt, bif_dec, if_neg, e0]
    dsimp only
    rw [← hkk]
    refine (step _ _ _).trans ?_
    exact ih (_, _) ⟨k + 1, h, Prod.ext (by dsimp only; omega) (by dsimp only; omega)⟩ (by dsimp only; omega)
  · have : k = a.length := by omega
    subst this
    unfold laws_heldIntS_L2
    simp only [hp, Int.lt_irrefl, decide_false, cond_false]
    rw [List.take_length]
    rfl
theorem laws_markIntS_ok {n : Nat} (a : List Int) (k0 : Int) (hk0 : 0 ≤ k0) (hb : k0 + ((n_LInt a : Nat) : Int) ≤ 900000000) (hw : w_LInt a ≤ 100000000) (hn : 1000000000 < n) : ∃ p : List Int, laws_markIntS n a k0 = some (k0 + ((n_LInt a : Nat) : Int), p) ∧ laws_heldIntS n p k0 = some (k0 + ((n_LInt a : Nat) : Int)) := by
  obtain ⟨p, h1, h2, h3⟩ := laws_markIntS_i (n := n) a k0 hk0 hb hw hn
  exact ⟨p, h1, laws_heldIntS_i a p h2 k0 hk0 hb hw hn h3⟩
theorem laws_markFloor_ok {n : Nat} (a : SFloor) (k0 : Int) (hk0 : 0 ≤ k0) (hb : k0 + ((n_LInt a.Ways : Nat) : Int) ≤ 900000000) (hw : w_SFloor a ≤ 100000000) (hn : 1000000000 < n) : ∃ w0, laws_markFloor n a k0 = some (k0 + ((n_LInt a.Ways : Nat) : Int), w0) := by
  have hww : w_SFloor a = w_LInt a.Ways := rfl
  obtain ⟨w0, x0, y0⟩ := laws_markIntS_ok (n := n) a.Ways (k0) (by omega) (by omega) (by omega) hn
  refine ⟨w0, ?_⟩
  unfold laws_markFloor
  simp only [x0, Option.bind_some]
  first | done | (congr 2; omega)
def Mk_LSCart (n : Nat) (k : Int) (a x : SCart) : Prop := x.At = k ∧ x.Goal = k + 1
def n_LSCart (a : List SCart) : Nat := sumOf (fun y => 2) a
theorem n_LSCart_eq (a : List SCart) : n_LSCart a = 2 * a.length := sumOf_const 2 a
theorem n_LSCart_le (a : List SCart) : n_LSCart a ≤ 2 * w_LSCart a := by
  have h := n_LSCart_eq a
  have h2 : w_LSCart a = a.length := rfl
  omega
theorem laws_markCartS_i {n : Nat} (a : List SCart) (k0 : Int) (hk0 : 0 ≤ k0) (hb : k0 + ((n_LSCart a : Nat) : Int) ≤ 900000000) (hw : w_LSCart a ≤ 100000000) (hn : 1000000000 < n) :
    ∃ p : List SCart, laws_markCartS n a k0 = some (k0 + ((n_LSCart a : Nat) : Int), p) ∧ p.length = a.length ∧ ∀ i, i < a.length → Mk_LSCart n (k0 + ((sumOf (fun y => 2) (a.take i) : Nat) : Int)) (a.getD i dSCart) (p.getD i dSCart) := by
  have hw0 : a.length ≤ 100000000 := by have hw : w_LSCart a = a.length := rfl; omega
  have hnA : n_LSCart a = sumOf (fun y => 2) a := rfl
  unfold laws_markCartS
  refine loopN_ind (fun x => a.length - x.2.1.toNat) (fun x => ∃ (k : Nat) (p : List SCart), k ≤ a.length ∧ x = (k0 + ((sumOf (fun y => 2) (a.take k) : Nat) : Int), (k : Int), p) ∧ p.length = a.length ∧
      (∀ i, i < k → Mk_LSCart n (k0 + ((sumOf (fun y => 2) (a.take i) : Nat) : Int)) (a.getD i dSCart) (p.getD i dSCart)) ∧ ∀ i, k ≤ i → p.getD i dSCart = a.getD i dSCart)
    (fun x r => ∃ p : List SCart, r = some (k0 + ((n_LSCart a : Nat) : Int), p) ∧ p.length = a.length ∧ ∀ i, i < a.length → Mk_LSCart n (k0 + ((sumOf (fun y => 2) (a.take i) : Nat) : Int)) (a.getD i dSCart) (p.getD i dSCart)) ?_ n _ ⟨0, a, by omega, by simp [sumOf], rfl, by omega, fun _ _ => rfl⟩ (by simp; omega)
  rintro _ J ⟨k, p, hk, rfl, hp, hm, hrest⟩ ih
  by_cases h : k < a.length
  · have h' : k < p.length := by omega
    have s1 := sumOf_take_succ (f := fun y => 2) (d := dSCart) h
    have s2 := sumOf_take_le (fun y => 2) a (k + 1)
    try simp only at s1
    obtain ⟨kk, hkk⟩ : ∃ kk : Int, kk = k0 + ((sumOf (fun y => 2) (a.take k) : Nat) : Int) := ⟨_, rfl⟩
    have hpk := hrest k (Nat.le_refl _)
    have step : ∀ (K : Int → List SCart → Option (Int × List SCart)) (J : Int → Int → List SCart → Option (Int × List SCart)), laws_markCartS_L2 n K J kk (k : Int) p = J (kk + 2) ((k : Int) + 1) (p.set k (⟨(kk), (kk + 1)⟩ : SCart)) := fun K J => by
      unfold laws_markCartS_L2
      simp (disch := omega) only [laws_markCartS_k0, Int.ofNat_lt, h', decide_true, cond_true, ix_nat h', List.length_set, chk_of, chk_true, bd_eq, getD_set h', List.set_set, hpk, Int.toNat_natCast, w64_id, Int.add_assoc, Int.reduceAdd, Option.bind_some]
    dsimp only
    rw [← hkk]
    refine (congrArg (fun z => ∃ q : List SCart, z = some (k0 + ((n_LSCart a : Nat) : Int), q) ∧ q.length = a.length ∧ ∀ i, i < a.length → Mk_LSCart n (k0 + ((sumOf (fun y => 2) (a.take i) : Nat) : Int)) (a.getD i dSCart) (q.getD i dSCart)) (step _ _)).mpr ?_
    refine ih _ ⟨k + 1, _, h, Prod.ext (by dsimp only; omega) (Prod.ext (by dsimp only; omega) rfl), by simpa using hp, fun i hi => ?_, fun i hi => ?_⟩ (by dsimp only; omega)
    · by_cases e : i = k
      · subst e
        rw [getD_set h', ← hkk]
        unfold Mk_LSCart
        exact ⟨rfl, rfl⟩
      · rw [getD_set_ne e]
        exact hm i (by omega)
    · rw [getD_set_ne (by omega)]
      exact hrest i (by omega)
  · have : k = a.length := by omega
    subst this
    unfold laws_markCartS_L2
    simp only [hp, Int.lt_irrefl, decide_false, cond_false]
    rw [List.take_length]
    exact ⟨p, rfl, hp, hm⟩
theorem laws_markCartS_ok {n : Nat} (a : List SCart) (k0 : Int) (hk0 : 0 ≤ k0) (hb : k0 + ((n_LSCart a : Nat) : Int) ≤ 900000000) (hw : w_LSCart a ≤ 100000000) (hn : 1000000000 < n) : ∃ p : List SCart, laws_markCartS n a k0 = some (k0 + ((n_LSCart a : Nat) : Int), p) := by
  obtain ⟨p, h1, h2, h3⟩ := laws_markCartS_i (n := n) a k0 hk0 hb hw hn
  exact ⟨p, h1⟩
end Go.Sm
end

section
set_option linter.unusedSimpArgs false
set_option linter.deprecated false
set_option linter.unusedSectionVars false
set_option linter.unusedVariables false
set_option linter.unusedSimpArgs false
namespace Go.Sm
attribute [local irreducible] bd chk ix loopN
theorem in_spec (n : Nat) (x a b : Int) : spec_l1In n x a b = some (decide (a ≤ x ∧ x ≤ b)) := by
  unfold spec_l1In
  by_cases h0 : a ≤ x <;> by_cases h1 : x ≤ b <;> simp [h0, h1]
theorem in_impl (n : Nat) (x a b : Int) : impl_in n x a b = some (decide (a ≤ x ∧ x ≤ b)) := by
  unfold impl_in
  by_cases h0 : a ≤ x <;> by_cases h1 : x ≤ b <;> simp [h0, h1]
theorem all_iffR {p : Nat → Bool} {m : Nat} : (List.range m).all p = true ↔ ∀ k, k < m → p k = true := by
  rw [List.all_eq_true]
  exact ⟨fun h k hk => h k (List.mem_range.2 hk), fun h k hk => h k (List.mem_range.1 hk)⟩
theorem getD_takeR {α : Type} {l : List α} {d : α} {k m : Nat} (h : k < m) : (l.take m).getD k d = l.getD k d := by
  simp [List.getD, List.getElem?_take, h]
/-! ### Floors -/
def wayB (l : List Int) (k : Nat) : Bool := decide (0 ≤ l.getD k 0 ∧ l.getD k 0 ≤ 15)
def floorB (f : SFloor) : Bool := decide (1 ≤ f.Wide ∧ f.Wide ≤ 10) && (decide (1 ≤ f.High ∧ f.High ≤ 10) && (decide ((f.Ways.length : Int) = w64 (f.Wide * f.High)) && (List.range f.Ways.length).all (wayB f.Ways)))
structure FlOk (f : SFloor) : Prop where
  w : 1 ≤ f.Wide ∧ f.Wide ≤ 10
  h : 1 ≤ f.High ∧ f.High ≤ 10
  len : (f.Ways.length : Int) = f.Wide * f.High
  hi : f.Ways.length ≤ 100
theorem mul_le {a b : Int} (h1 : 1 ≤ a ∧ a ≤ 10) (h2 : 1 ≤ b ∧ b ≤ 10) : 1 ≤ a * b ∧ a * b ≤ 100 := by
  obtain ⟨x, rfl⟩ : ∃ x : Nat, a = (x : Int) := ⟨a.toNat, by omega⟩
  obtain ⟨y, rfl⟩ : ∃ y : Nat, b = (y : Int) := ⟨b.toNat, by omega⟩
  have p1 : x * y ≤ 10 * 10 := Nat.mul_le_mul (by omega) (by omega)
  have p2 : 1 * 1 ≤ x * y := Nat.mul_le_mul (by omega) (by omega)
  have e : ((x : Int) * (y : Int)) = ((x * y : Nat) : Int) := by simp
  omega
theorem flOk {f : SFloor} (h : floorB f = true) : FlOk f := by
  unfold floorB at h
  rw [Bool.and_eq_true, Bool.and_eq_true, Bool.and_eq_true] at h
  have h1 := of_decide_eq_true h.1
  have h2 := of_decide_eq_true h.2.1
  have h3 := of_decide_eq_true h.2.2.1
  obtain ⟨m1, m2⟩ := mul_le h1 h2
  rw [w64_id (by omega) (by omega)] at h3
  exact ⟨h1, h2, h3, by omega⟩
theorem floor_spec {n : Nat} (f : SFloor) (hl : f.Ways.length ≤ 1048576) (hn : 1000000000 < n) : spec_FloorOk n f = some (floorB f) := by
  have ha : spec_l3All n f.Ways 0 15 = some ((List.range f.Ways.length).all (wayB f.Ways)) := by
    unfold spec_l3All
    rw [loop_all (p := wayB f.Ways) (len := f.Ways.length) (no := some false) (yes := some true) (by omega) (fun k J h _ => ?_) (fun J _ => ?_) (by omega)]
    · rw [bif_tf]
    · unfold spec_l3All_L2 wayB
      simp only [Int.ofNat_lt, h, decide_true, cond_true, ix_nat h, in_spec, Option.bind_some, Int.toNat_natCast, w64_succ (show k < 9223372036854775807 by omega), bif_not]
    · unfold spec_l3All_L2
      simp only [Int.lt_irrefl, decide_false, cond_false]
  unfold spec_FloorOk floorB
  simp only [in_spec, Option.bind_some, bd_eq, ha]
  cases decide (1 ≤ f.Wide ∧ f.Wide ≤ 10) <;> cases decide (1 ≤ f.High ∧ f.High ≤ 10) <;> cases decide ((f.Ways.length : Int) = w64 (f.Wide * f.High)) <;> rfl
theorem floor_impl {n : Nat} (f : SFloor) (hl : f.Ways.length ≤ 1048576) (hn : 1000000000 < n) : impl_FloorOk n f = some (floorB f) := by
  have ha : impl_all n f.Ways 0 15 = some ((List.range f.Ways.length).all (wayB f.Ways)) := by
    unfold impl_all slices_ContainsFunc_int_int__impl_all_1 slices_IndexFunc_int_int__impl_all_1
    rw [loop_idx (p := fun k => !wayB f.Ways k) (len := f.Ways.length) (by omega) (fun k J h _ => ?_) (fun J _ => ?_) (by omega)]
    · rw [Option.bind_some, idxOf_ge, Option.bind_some, ← List.all_eq_not_any_not]
    · unfold slices_IndexFunc_int_int__impl_all_1_L2 impl_all_1 wayB
      simp only [Int.ofNat_lt, h, decide_true, cond_true, ix_nat h, Int.toNat_natCast, in_impl, Option.bind_some, w64_succ (show k < 9223372036854775807 by omega)]
    · unfold slices_IndexFunc_int_int__impl_all_1_L2
      simp only [Int.lt_irrefl, decide_false, cond_false]
  unfold impl_FloorOk floorB
  simp only [in_impl, Option.bind_some, bd_eq, ha]
  cases decide (1 ≤ f.Wide ∧ f.Wide ≤ 10) <;> cases decide (1 ≤ f.High ∧ f.High ≤ 10) <;> cases decide ((f.Ways.length : Int) = w64 (f.Wide * f.High)) <;> rfl
def placeB (f : SFloor) (p : Int) : Bool := decide (0 ≤ p ∧ p ≤ (f.Ways.length : Int) - 1)
theorem place_impl {n : Nat} {f : SFloor} (h : FlOk f) (p : Int) : impl_Floor_place n f p = some (placeB f p) := by
  have h1 := h.len
  have h2 := h.hi
  unfold impl_Floor_place placeB
  rw [bd_eq, in_impl, Option.bind_some, w64_id (x := f.Wide * f.High) (by omega) (by omega), ← h1, w64_id (by omega) (by omega)]
/-! ### Carts -/
abbrev ct (l : List SCart) (i : Nat) : SCart := l.getD i dSCart
def apart (l : List SCart) (i : Nat) : Bool := (List.range i).all fun k => !decide ((ct l k).At = (ct l i).At)
def cartB (f : SFloor) (l : List SCart) (i : Nat) : Bool := placeB f (ct l i).At && (decide (-1 ≤ (ct l i).Goal ∧ (ct l i).Goal ≤ (f.Ways.length : Int) - 1) && apart l i)
def cartsB (f : SFloor) (l : List SCart) : Bool := floorB f && (decide (l.length ≤ 12) && (List.range l.length).all (cartB f l))
theorem carts_spec {n : Nat} (f : SFloor) (l : List SCart) (hf : f.Ways.length ≤ 1048576) (hl : l.length ≤ 1048576) (hn : 1000000000 < n) : spec_CartsOk n f l = some (cartsB f l) := by
  unfold spec_CartsOk cartsB
  rw [floor_spec f hf hn, Option.bind_some]
  cases hfl : floorB f with
  | false => rfl
  | true =>
    have hO := flOk hfl
    have h1 := hO.len
    have h2 := hO.hi
    have hw : w64 ((f.Ways.length : Int) - 1) = (f.Ways.length : Int) - 1 := w64_id (by omega) (by omega)
    by_cases h12 : l.length ≤ 12
    · rw [decide_eq_false (show ¬ (l.length : Int) > 12 by omega), decide_eq_true h12]
      simp only [Bool.not_true, cond_false, Bool.true_and]
      rw [loop_all (p := cartB f l) (len := l.length) (no := some false) (yes := some true) (by omega) (fun k J h _ => ?_) (fun J _ => ?_) (by omega)]
      · rw [bif_tf]
      · have hi : loopN (fun (x : Int) J' => spec_CartsOk_L9 n (J ((k + 1 : Nat) : Int)) (fun t36 => some t36) J' l (k : Int) x f) n (0 : Int) = bif apart l k then J ((k + 1 : Nat) : Int) else some false := by
          rw [loop_all (p := fun j => !decide ((ct l j).At = (ct l k).At)) (len := k) (no := some false) (yes := J ((k + 1 : Nat) : Int)) (by omega) (fun j J2 hj _ => ?_) (fun J2 _ => ?_) (by omega)]
          · rfl
          · unfold spec_CartsOk_L9
            simp only [Int.ofNat_lt, hj, decide_true, cond_true, ix_nat (Nat.lt_trans hj h), ix_nat h, Int.toNat_natCast, bd_eq, w64_succ (show j < 9223372036854775807 by omega), bif_not]
          · unfold spec_CartsOk_L9
            simp only [Int.lt_irrefl, decide_false, cond_false]
        unfold spec_CartsOk_L4 spec_CartsOk_k0 cartB placeB
        simp only [Int.ofNat_lt, h, decide_true, cond_true, ix_nat h, bd_eq, Int.toNat_natCast, in_spec, hw, Option.bind_some, w64_succ (show k < 9223372036854775807 by omega), hi, bif_not, bif_and', Bool.and_assoc]
      · unfold spec_CartsOk_L4
        simp only [Int.lt_irrefl, decide_false, cond_false]
    · rw [decide_eq_true (show (l.length : Int) > 12 by omega), decide_eq_false h12]
      rfl
theorem carts_impl {n : Nat} (f : SFloor) (l : List SCart) (hf : f.Ways.length ≤ 1048576) (hl : l.length ≤ 1048576) (hn : 1000000000 < n) : impl_CartsOk n f l = some (cartsB f l) := by
  unfold impl_CartsOk cartsB
  rw [floor_impl f hf hn, Option.bind_some]
  cases hfl : floorB f with
  | false => rfl
  | true =>
    have hO := flOk hfl
    by_cases h12 : l.length ≤ 12
    · rw [decide_eq_false (show ¬ (l.length : Int) > 12 by omega), decide_eq_true h12]
      simp only [Bool.not_true, cond_false, Bool.true_and]
      rw [loop_all (p := cartB f l) (len := l.length) (no := some false) (yes := some true) (by omega) (fun k J h _ => ?_) (fun J _ => ?_) (by omega)]
      · rw [bif_tf]
      · have ht : (l.take k).length = k := by rw [List.length_take]; omega
        have hc : slices_ContainsFunc_impl_Cart_impl_Cart__impl_CartsOk_1 n (l.take k) (ct l k) = some (!apart l k) := by
          unfold slices_ContainsFunc_impl_Cart_impl_Cart__impl_CartsOk_1 slices_IndexFunc_impl_Cart_impl_Cart__impl_CartsOk_1
          rw [loop_idx (p := fun j => decide (((l.take k).getD j dSCart).At = (ct l k).At)) (len := (l.take k).length) (by omega) (fun j J h _ => ?_) (fun J _ => ?_) (by omega)]
          · rw [Option.bind_some, idxOf_ge]
            unfold apart
            rw [List.not_all_eq_any_not, ht]
            congr 1
            exact any_congr_lt fun j hj => by rw [getD_takeR hj, Bool.not_not]
          · unfold slices_IndexFunc_impl_Cart_impl_Cart__impl_CartsOk_1_L2 impl_CartsOk_1
            simp only [Int.ofNat_lt, h, decide_true, cond_true, ix_nat h, bd_eq, Option.bind_some, Int.toNat_natCast, w64_succ (show j < 9223372036854775807 by omega)]
          · unfold slices_IndexFunc_impl_Cart_impl_Cart__impl_CartsOk_1_L2
            simp only [Int.lt_irrefl, decide_false, cond_false]
        unfold impl_CartsOk_L4 impl_CartsOk_k0 cartB
        simp only [Int.ofNat_lt, h, decide_true, cond_true, ix_nat h, bd_eq, Int.toNat_natCast, place_impl hO, Option.bind_some, w64_succ (show k < 9223372036854775807 by omega), chk_dec (show (0 : Int) ≤ (k : Int) by omega), chk_dec (show (k : Int) ≤ (l.length : Int) by omega), hc, bif_not]
        cases placeB f (ct l k).At with
        | false => rfl
        | true =>
          by_cases hg : (ct l k).Goal = -1
          · rw [decide_eq_true hg, decide_eq_true (by have := hO.hi; have := hO.len; have := mul_le hO.w hO.h; omega)]
            rfl
          · have e : placeB f (ct l k).Goal = decide (-1 ≤ (ct l k).Goal ∧ (ct l k).Goal ≤ (f.Ways.length : Int) - 1) := by
              unfold placeB
              simp only [decide_eq_decide]
              omega
            rw [decide_eq_false hg, e]
            cases decide (-1 ≤ (ct l k).Goal ∧ (ct l k).Goal ≤ (f.Ways.length : Int) - 1) <;> rfl
      · unfold impl_CartsOk_L4
        simp only [Int.lt_irrefl, decide_false, cond_false]
    · rw [decide_eq_true (show (l.length : Int) > 12 by omega), decide_eq_false h12]
      rfl
/-! ### The next place -/
def dxI (bit : Nat) : Int := if bit = 0 then 1 else if bit = 2 then -1 else 0
def dyI (bit : Nat) : Int := if bit = 1 then 1 else if bit = 3 then -1 else 0
def openB (f : SFloor) (p bit : Nat) : Bool := !decide (w64 (((BitVec.ofInt 64 (Int.fdiv (f.Ways.getD p 0) (2 ^ (min bit 64))) &&& BitVec.ofInt 64 (1 : Int)).toNat : Nat) : Int) = 0)
def nxX (f : SFloor) (p bit : Nat) : Int := Int.tmod (p : Int) f.Wide + dxI bit
def nxY (f : SFloor) (p bit : Nat) : Int := Int.tdiv (p : Int) f.Wide + dyI bit
def nextB (f : SFloor) (p bit : Nat) : Int := bif openB f p bit && (decide (0 ≤ nxX f p bit ∧ nxX f p bit ≤ f.Wide - 1) && decide (0 ≤ nxY f p bit ∧ nxY f p bit ≤ f.High - 1)) then nxY f p bit * f.Wide + nxX f p bit else -1
theorem bit_one (v : Int) : w64 (((BitVec.ofInt 64 v &&& BitVec.ofInt 64 (1 : Int)).toNat : Nat) : Int) = 0 ∨ w64 (((BitVec.ofInt 64 v &&& BitVec.ofInt 64 (1 : Int)).toNat : Nat) : Int) = 1 := by
  have h : (BitVec.ofInt 64 v &&& BitVec.ofInt 64 (1 : Int)).toNat = (BitVec.ofInt 64 v).toNat % 2 := by
    rw [BitVec.toNat_and]
    exact Nat.and_one_is_mod _
  rw [h]
  have : (BitVec.ofInt 64 v).toNat % 2 = 0 ∨ (BitVec.ofInt 64 v).toNat % 2 = 1 := by omega
  rcases this with e | e
  · rw [e]; exact .inl (w64_id (by omega) (by omega))
  · rw [e]; exact .inr (w64_id (by omega) (by omega))
theorem open_one (f : SFloor) (p bit : Nat) : decide (w64 (((BitVec.ofInt 64 (Int.fdiv (f.Ways.getD p 0) (2 ^ (min bit 64))) &&& BitVec.ofInt 64 (1 : Int)).toNat : Nat) : Int) = 1) = openB f p bit := by
  unfold openB
  rcases bit_one (Int.fdiv (f.Ways.getD p 0) (2 ^ (min bit 64))) with e | e
  · rw [e]; rfl
  · rw [e]; rfl
theorem xy_rng {f : SFloor} (hO : FlOk f) {p : Nat} (hp : p < f.Ways.length) : 0 ≤ Int.tmod (p : Int) f.Wide ∧ Int.tmod (p : Int) f.Wide < f.Wide ∧ 0 ≤ Int.tdiv (p : Int) f.Wide ∧ Int.tdiv (p : Int) f.Wide ≤ 100 := by
  have h1 := hO.w
  have h2 := hO.hi
  refine ⟨Int.tmod_nonneg _ (by omega), Int.tmod_lt_of_pos _ (by omega), Int.tdiv_nonneg (by omega) (by omega), ?_⟩
  have := Int.tdiv_le_self (a := (p : Int)) f.Wide (by omega)
  omega
theorem next_rng {f : SFloor} (hO : FlOk f) (p bit : Nat) : nextB f p bit = -1 ∨ 0 ≤ nextB f p bit ∧ nextB f p bit < (f.Ways.length : Int) := by
  unfold nextB
  cases openB f p bit with
  | false => exact .inl rfl
  | true =>
    by_cases h1 : 0 ≤ nxX f p bit ∧ nxX f p bit ≤ f.Wide - 1
    · by_cases h2 : 0 ≤ nxY f p bit ∧ nxY f p bit ≤ f.High - 1
      · rw [decide_eq_true h1, decide_eq_true h2]
        right
        show 0 ≤ nxY f p bit * f.Wide + nxX f p bit ∧ _
        rw [hO.len]
        have w1 := hO.w
        have q1 : 0 ≤ nxY f p bit * f.Wide := Int.mul_nonneg h2.1 (by omega)
        have q2 : nxY f p bit * f.Wide ≤ (f.High - 1) * f.Wide := Int.mul_le_mul_of_nonneg_right h2.2 (by omega)
        have q3 : (f.High - 1) * f.Wide = f.Wide * f.High - f.Wide := by rw [Int.sub_mul, Int.one_mul, Int.mul_comm]
        show 0 ≤ nxY f p bit * f.Wide + nxX f p bit ∧ nxY f p bit * f.Wide + nxX f p bit < f.Wide * f.High
        omega
      · rw [decide_eq_false h2, Bool.and_false, Bool.and_false]; exact .inl rfl
    · rw [decide_eq_false h1, Bool.false_and, Bool.and_false]; exact .inl rfl
theorem next_k0 {n : Nat} {f : SFloor} (hO : FlOk f) (x y : Int) (hx : -100 ≤ x ∧ x ≤ 200) (hy : -100 ≤ y ∧ y ≤ 200) :
    spec_l19Next_k0 n x y f = some (bif decide (0 ≤ x ∧ x ≤ f.Wide - 1) && decide (0 ≤ y ∧ y ≤ f.High - 1) then y * f.Wide + x else -1) := by
  have w1 := hO.w
  have h1 := hO.h
  unfold spec_l19Next_k0
  simp only [bd_eq, in_spec, Option.bind_some, w64_id (show -9223372036854775808 ≤ f.Wide - 1 by omega) (show f.Wide - 1 ≤ 9223372036854775807 by omega), w64_id (show -9223372036854775808 ≤ f.High - 1 by omega) (show f.High - 1 ≤ 9223372036854775807 by omega)]
  by_cases c1 : 0 ≤ x ∧ x ≤ f.Wide - 1
  · by_cases c2 : 0 ≤ y ∧ y ≤ f.High - 1
    · rw [decide_eq_true c1, decide_eq_true c2]
      have q1 : 0 ≤ y * f.Wide := Int.mul_nonneg c2.1 (by omega)
      have q2 : y * f.Wide ≤ 10 * f.Wide := Int.mul_le_mul_of_nonneg_right (by omega) (by omega)
      rw [w64_id (x := y * f.Wide) (by omega) (by omega), w64_id (by omega) (by omega)]
      rfl
    · rw [decide_eq_true c1, decide_eq_false c2]; rfl
  · rw [decide_eq_false c1]; rfl
theorem next_spec {n : Nat} {f : SFloor} (hO : FlOk f) {p bit : Nat} (hp : p < f.Ways.length) (hb : bit < 4) : spec_l19Next n f (p : Int) (bit : Int) = some (nextB f p bit) := by
  obtain ⟨x1, x2, y1, y2⟩ := xy_rng hO hp
  have w1 := hO.w
  have e0 : decide (f.Wide = 0) = false := decide_eq_false (by omega)
  have ey : w64 (Int.tdiv (p : Int) f.Wide) = Int.tdiv (p : Int) f.Wide := w64_id (by omega) (by omega)
  unfold spec_l19Next nextB openB
  simp only [ix_nat hp, chk_dec (show (0 : Int) ≤ (bit : Int) by omega), bd_eq, Int.toNat_natCast]
  cases hc : decide (w64 (((BitVec.ofInt 64 (Int.fdiv (f.Ways.getD p 0) (2 ^ (min bit 64))) &&& BitVec.ofInt 64 (1 : Int)).toNat : Nat) : Int) = 0) with
  | true => rfl
  | false =>
    simp only [cond_false, Bool.not_false, Bool.true_and]
    unfold spec_l19Next_k1 nxX nxY
    simp only [e0, cond_false, bd_eq, ey]
    have hbit : bit = 0 ∨ bit = 1 ∨ bit = 2 ∨ bit = 3 := by omega
    rcases hbit with rfl | rfl | rfl | rfl
    · rw [decide_eq_true (show ((0 : Nat) : Int) = 0 from rfl), cond_true, w64_id (by omega) (by omega), next_k0 hO _ _ (by omega) (by omega)]
      simp [dxI, dyI]
    · rw [decide_eq_false (show ¬ ((1 : Nat) : Int) = 0 by omega), decide_eq_true (show ((1 : Nat) : Int) = 1 from rfl), cond_true, cond_false, w64_id (by omega) (by omega), next_k0 hO _ _ (by omega) (by omega)]
      simp [dxI, dyI]
    · rw [decide_eq_false (show ¬ ((2 : Nat) : Int) = 0 by omega), decide_eq_false (show ¬ ((2 : Nat) : Int) = 1 by omega), decide_eq_true (show ((2 : Nat) : Int) = 2 from rfl), cond_true, cond_false, cond_false, w64_id (by omega) (by omega), next_k0 hO _ _ (by omega) (by omega)]
      simp [dxI, dyI, Int.sub_eq_add_neg]
    · rw [decide_eq_false (show ¬ ((3 : Nat) : Int) = 0 by omega), decide_eq_false (show ¬ ((3 : Nat) : Int) = 1 by omega), decide_eq_false (show ¬ ((3 : Nat) : Int) = 2 by omega), cond_false, cond_false, cond_false, w64_id (by omega) (by omega), next_k0 hO _ _ (by omega) (by omega)]
      simp [dxI, dyI, Int.sub_eq_add_neg]
/-- Where one may go from a place, by bit. -/
def leadK (f : SFloor) (p k : Nat) : List Int := ((List.range k).map (nextB f p)).filter fun q => decide (0 ≤ q)
theorem leadK_succ (f : SFloor) (p k : Nat) : leadK f p (k + 1) = bif decide (0 ≤ nextB f p k) then leadK f p k ++ [nextB f p k] else leadK f p k := by
  unfold leadK
  rw [List.range_succ, List.map_append, List.filter_append]
  by_cases c : 0 ≤ nextB f p k
  · rw [decide_eq_true c]; simp [c]
  · rw [decide_eq_false c]; simp [c]
theorem leadK_len (f : SFloor) (p k : Nat) : (leadK f p k).length ≤ k := by
  have := List.length_filter_le (fun q : Int => decide (0 ≤ q)) ((List.range k).map (nextB f p))
  rw [List.length_map, List.length_range] at this
  exact this
def dirs : List SArr2_Int := [(⟨(1 : Int), (0 : Int)⟩ : SArr2_Int), (⟨(0 : Int), (1 : Int)⟩ : SArr2_Int), (⟨(-1 : Int), (0 : Int)⟩ : SArr2_Int), (⟨(0 : Int), (-1 : Int)⟩ : SArr2_Int)]
theorem dirs_get {k : Nat} (hk : k < 4) : dirs.getD k dSArr2_Int = ⟨dxI k, dyI k⟩ := by
  have : k = 0 ∨ k = 1 ∨ k = 2 ∨ k = 3 := by omega
  rcases this with rfl | rfl | rfl | rfl <;> rfl
theorem leads_impl {n : Nat} {f : SFloor} (hO : FlOk f) {p : Nat} (hp : p < f.Ways.length) (hn : 1000000000 < n) : impl_Floor_leads n f (p : Int) = some (leadK f p 4) := by
  obtain ⟨x1, x2, y1, y2⟩ := xy_rng hO hp
  have w1 := hO.w
  have h1 := hO.h
  unfold impl_Floor_leads
  rw [decide_eq_false (show ¬ f.Wide = 0 by omega), cond_false, cond_false, bd_eq, w64_id (by omega) (by omega)]
  refine loop_runS (S := List Int) (X := Int × List Int) (enc := fun k s => (k, s)) (len := 4) (I := fun k s => s = leadK f p k) (Q := fun r => r = some (leadK f p 4)) (fun k s J hk hi => ?_) (fun s J hi => ?_) (by omega) (s0 := []) rfl
  · refine ⟨_, rfl, ?_⟩
    have hl := leadK_len f p k
    have hd : dirs.length = 4 := rfl
    show impl_Floor_leads_L4 n _ _ (p : Int) (Int.tmod (p : Int) f.Wide) (Int.tdiv (p : Int) f.Wide) 4 (k : Int) f s dirs = _
    unfold impl_Floor_leads_L4 impl_Floor_leads_k0
    have dx : dxI k = 1 ∨ dxI k = 0 ∨ dxI k = -1 := by unfold dxI; split; exact .inl rfl; split; exact .inr (.inr rfl); exact .inr (.inl rfl)
    have dy : dyI k = 1 ∨ dyI k = 0 ∨ dyI k = -1 := by unfold dyI; split; exact .inl rfl; split; exact .inr (.inr rfl); exact .inr (.inl rfl)
    have ex : w64 (Int.tmod (p : Int) f.Wide + dxI k) = nxX f p k := w64_id (by omega) (by omega)
    have ey : w64 (Int.tdiv (p : Int) f.Wide + dyI k) = nxY f p k := w64_id (by omega) (by omega)
    have hxx : nxX f p k = Int.tmod (p : Int) f.Wide + dxI k := rfl
    have hyy : nxY f p k = Int.tdiv (p : Int) f.Wide + dyI k := rfl
    simp only [decide_eq_true (show (k : Int) < 4 by omega), cond_true, ix_nat (show k < dirs.length by omega), chk_dec (show k < dirs.length by omega), Int.toNat_natCast, bd_eq, dirs_get hk, ix_nat hp, chk_dec (show (0 : Int) ≤ (k : Int) by omega), open_one, in_impl, Option.bind_some, ex, ey,
      w64_id (show -9223372036854775808 ≤ f.Wide - 1 by omega) (show f.Wide - 1 ≤ 9223372036854775807 by omega), w64_id (show -9223372036854775808 ≤ f.High - 1 by omega) (show f.High - 1 ≤ 9223372036854775807 by omega), w64_succ (show k < 9223372036854775807 by omega)]
    rw [leadK_succ, ← hi]
    have hnb : nextB f p k = bif openB f p k && (decide (0 ≤ nxX f p k ∧ nxX f p k ≤ f.Wide - 1) && decide (0 ≤ nxY f p k ∧ nxY f p k ≤ f.High - 1)) then nxY f p k * f.Wide + nxX f p k else -1 := rfl
    cases ho : openB f p k with
    | false => rw [ho] at hnb; rw [hnb]; rfl
    | true =>
      by_cases c1 : 0 ≤ nxX f p k ∧ nxX f p k ≤ f.Wide - 1
      · by_cases c2 : 0 ≤ nxY f p k ∧ nxY f p k ≤ f.High - 1
        · have q1 : 0 ≤ nxY f p k * f.Wide := Int.mul_nonneg c2.1 (by omega)
          have q2 : nxY f p k * f.Wide ≤ 10 * f.Wide := Int.mul_le_mul_of_nonneg_right (by omega) (by omega)
          rw [ho, decide_eq_true c1, decide_eq_true c2] at hnb
          have hnb : nextB f p k = nxY f p k * f.Wide + nxX f p k := hnb
          rw [decide_eq_true c1, decide_eq_true c2, cond_true, cond_true, cond_true, w64_id (x := nxY f p k * f.Wide) (by omega) (by omega), w64_id (x := nxY f p k * f.Wide + nxX f p k) (by omega) (by omega), ← hnb, decide_eq_true (show 0 ≤ nextB f p k by omega), cond_true, chk_dec (by rw [List.length_append, List.length_singleton, hi]; omega)]
        · rw [ho, decide_eq_false c2, Bool.and_false, Bool.and_false] at hnb
          rw [decide_eq_true c1, decide_eq_false c2, hnb]; rfl
      · rw [ho, decide_eq_false c1, Bool.false_and, Bool.and_false] at hnb
        rw [decide_eq_false c1, hnb]; rfl
  · show impl_Floor_leads_L4 n _ _ (p : Int) (Int.tmod (p : Int) f.Wide) (Int.tdiv (p : Int) f.Wide) 4 4 f s dirs = _
    unfold impl_Floor_leads_L4
    simp only [Int.lt_irrefl, decide_false, cond_false]
    rw [hi]
end Go.Sm
end

section
set_option linter.unusedSimpArgs false
set_option linter.deprecated false
set_option linter.unusedSectionVars false
set_option linter.unusedVariables false
set_option linter.unusedSimpArgs false
namespace Go.Sm
attribute [local irreducible] bd chk ix loopN
theorem loopN_step {X R : Type} {b : X → (X → Option R) → Option R} {n : Nat} (hn : 0 < n) (x : X) : loopN b n x = b x (loopN b (n - 1)) := by
  obtain ⟨m, rfl⟩ : ∃ m, n = m + 1 := ⟨n - 1, by omega⟩
  rw [loopN_succ]
  rfl
abbrev g0 (c : List Int) (p : Nat) : Int := c.getD p 0
def hitP (f : SFloor) (d : Int) (c : List Int) (p j : Nat) : Bool := decide (0 ≤ nextB f p j) && decide (g0 c (nextB f p j).toNat = d)
def chgP (f : SFloor) (d : Int) (c : List Int) (p : Nat) : Bool := decide (g0 c p < 0) && (List.range 4).any (hitP f d c p)
def stepP (f : SFloor) (d : Int) (c : List Int) (p : Nat) : List Int := bif chgP f d c p then c.set p (d + 1) else c
def runP (f : SFloor) (d : Int) : Nat → List Int → Bool × List Int
  | 0, c => (false, c)
  | k + 1, c => ((runP f d k c).1 || chgP f d (runP f d k c).2 k, stepP f d (runP f d k c).2 k)
def lvK (f : SFloor) (c0 : List Int) : Nat → List Int
  | 0 => c0
  | k + 1 => (runP f (k : Int) f.Ways.length (lvK f c0 k)).2
theorem set_get {c : List Int} {p : Nat} {v : Int} {q : Nat} : g0 (c.set p v) q = if p = q ∧ q < c.length then v else g0 c q := by
  unfold g0
  by_cases h : p = q
  · subst h
    by_cases h2 : p < c.length
    · rw [if_pos ⟨rfl, h2⟩]
      simp [List.getD, h2]
    · rw [if_neg (fun x => h2 x.2)]
      simp [List.getD, h2]
  · rw [if_neg (fun x => h x.1)]
    simp [List.getD, List.getElem?_set, h]
theorem stepP_len (f : SFloor) (d : Int) (c : List Int) (p : Nat) : (stepP f d c p).length = c.length := by
  unfold stepP
  cases chgP f d c p <;> simp
theorem runP_len (f : SFloor) (d : Int) (c : List Int) : ∀ k, (runP f d k c).2.length = c.length
  | 0 => rfl
  | k + 1 => by
    show (stepP f d (runP f d k c).2 k).length = _
    rw [stepP_len, runP_len f d c k]
theorem lvK_len (f : SFloor) (c0 : List Int) : ∀ k, (lvK f c0 k).length = c0.length
  | 0 => rfl
  | k + 1 => by
    show (runP f (k : Int) f.Ways.length (lvK f c0 k)).2.length = _
    rw [runP_len, lvK_len f c0 k]
theorem runP_same (f : SFloor) (d : Int) (c : List Int) : ∀ k, (runP f d k c).1 = false → (runP f d k c).2 = c
  | 0, _ => rfl
  | k + 1, h => by
    have h : ((runP f d k c).1 || chgP f d (runP f d k c).2 k) = false := h
    rw [Bool.or_eq_false_iff] at h
    show stepP f d (runP f d k c).2 k = c
    unfold stepP
    rw [h.2]
    exact runP_same f d c k h.1
/-- Entries not above d. -/
def under (c : List Int) (d : Int) : Prop := ∀ p, g0 c p ≤ d
theorem stepP_under {f : SFloor} {d : Int} {c : List Int} {p : Nat} (h : under c (d + 1)) : under (stepP f d c p) (d + 1) := by
  intro q
  unfold stepP
  cases chgP f d c p with
  | false => exact h q
  | true =>
    rw [cond_true, set_get]
    split
    · exact Int.le_refl _
    · exact h q
theorem runP_under {f : SFloor} {d : Int} {c : List Int} (h : under c (d + 1)) : ∀ k, under (runP f d k c).2 (d + 1)
  | 0 => h
  | k + 1 => stepP_under (runP_under h k)
theorem lvK_under {f : SFloor} {c0 : List Int} (h : under c0 0) : ∀ k : Nat, under (lvK f c0 k) (k : Int)
  | 0 => h
  | k + 1 => by
    have ih := lvK_under (f := f) h k
    have : under (lvK f c0 k) ((k : Int) + 1) := fun p => by have := ih p; omega
    have h2 := runP_under (f := f) this f.Ways.length
    intro p
    have := h2 p
    show g0 (runP f (k : Int) f.Ways.length (lvK f c0 k)).2 p ≤ _
    omega
theorem chgP_none {f : SFloor} {d e : Int} {c : List Int} (h : under c e) (he : e < d) (p : Nat) : chgP f d c p = false := by
  unfold chgP
  rw [show (List.range 4).any (hitP f d c p) = false from by
    rw [List.any_eq_false]
    intro j _
    unfold hitP
    have := h (nextB f p j).toNat
    rw [decide_eq_false (show ¬ g0 c (nextB f p j).toNat = d by omega), Bool.and_false]
    simp, Bool.and_false]
theorem runP_none {f : SFloor} {d e : Int} {c : List Int} (h : under c e) (he : e < d) : ∀ k, runP f d k c = (false, c)
  | 0 => rfl
  | k + 1 => by
    have ih := runP_none (f := f) h he k
    show ((runP f d k c).1 || chgP f d (runP f d k c).2 k, stepP f d (runP f d k c).2 k) = _
    rw [ih]
    unfold stepP
    rw [chgP_none h he k]
    rfl
theorem lvK_stop {f : SFloor} {c0 : List Int} (h : under c0 0) {k : Nat} (hs : (runP f (k : Int) f.Ways.length (lvK f c0 k)).1 = false) : ∀ j, lvK f c0 (k + j) = lvK f c0 k
  | 0 => rfl
  | 1 => runP_same f (k : Int) (lvK f c0 k) f.Ways.length hs
  | j + 2 => by
    have ih := lvK_stop h hs (j + 1)
    have hu := lvK_under (f := f) h k
    show (runP f ((k + (j + 1) : Nat) : Int) f.Ways.length (lvK f c0 (k + (j + 1)))).2 = _
    rw [ih, runP_none hu (by omega)]
/-- How many places are not reached. -/
def neg (c : List Int) : Nat := (c.filter fun x => decide (x < 0)).length
theorem neg_set : ∀ (c : List Int) (p : Nat) (v : Int), p < c.length → g0 c p < 0 → 0 ≤ v → neg (c.set p v) + 1 = neg c
  | [], _, _, h, _, _ => absurd h (Nat.not_lt_zero _)
  | x :: c, 0, v, _, hx, hv => by
    have hx : x < 0 := hx
    unfold neg
    rw [List.set_cons_zero, List.filter_cons_of_neg (by simpa using hv), List.filter_cons_of_pos (by simpa using hx)]
    rfl
  | x :: c, p + 1, v, h, hx, hv => by
    have ih := neg_set c p v (Nat.lt_of_succ_lt_succ h) hx hv
    unfold neg at ih ⊢
    rw [List.set_cons_succ]
    by_cases c1 : x < 0
    · rw [List.filter_cons_of_pos (by simpa using c1), List.filter_cons_of_pos (by simpa using c1), List.length_cons, List.length_cons]
      omega
    · rw [List.filter_cons_of_neg (by simpa using c1), List.filter_cons_of_neg (by simpa using c1)]
      exact ih
theorem neg_runP {f : SFloor} {d : Int} {c : List Int} (hd : 0 ≤ d) : ∀ k, k ≤ c.length → neg (runP f d k c).2 ≤ neg c ∧ ((runP f d k c).1 = true → neg (runP f d k c).2 < neg c)
  | 0, _ => ⟨Nat.le_refl _, fun h => by cases h⟩
  | k + 1, hk => by
    obtain ⟨i1, i2⟩ := neg_runP (f := f) (d := d) (c := c) hd k (by omega)
    have hl := runP_len f d c k
    show neg (stepP f d (runP f d k c).2 k) ≤ neg c ∧ (((runP f d k c).1 || chgP f d (runP f d k c).2 k) = true → neg (stepP f d (runP f d k c).2 k) < neg c)
    unfold stepP
    cases hc : chgP f d (runP f d k c).2 k with
    | false => rw [cond_false, Bool.or_false]; exact ⟨i1, i2⟩
    | true =>
      have h0 : g0 (runP f d k c).2 k < 0 := by
        unfold chgP at hc
        rw [Bool.and_eq_true] at hc
        exact of_decide_eq_true hc.1
      have h1 := neg_set (runP f d k c).2 k (d + 1) (by omega) h0 (by omega)
      rw [cond_true]
      exact ⟨by omega, fun _ => by omega⟩
theorem keep_step {f : SFloor} {d : Int} {c : List Int} {p q : Nat} (h : 0 ≤ g0 c q) : g0 (stepP f d c p) q = g0 c q := by
  unfold stepP
  cases hc : chgP f d c p with
  | false => rfl
  | true =>
    rw [cond_true, set_get]
    split
    · rename_i h2
      unfold chgP at hc
      rw [Bool.and_eq_true] at hc
      have := of_decide_eq_true hc.1
      rw [h2.1] at this
      omega
    · rfl
theorem keep_run {f : SFloor} {d : Int} {c : List Int} {q : Nat} (h : 0 ≤ g0 c q) : ∀ k, g0 (runP f d k c).2 q = g0 c q
  | 0 => rfl
  | k + 1 => by
    show g0 (stepP f d (runP f d k c).2 k) q = _
    rw [keep_step (by rw [keep_run h k]; exact h), keep_run h k]
theorem keep_lvK {f : SFloor} {c0 : List Int} {q : Nat} (h : 0 ≤ g0 c0 q) : ∀ k, g0 (lvK f c0 k) q = g0 c0 q
  | 0 => rfl
  | k + 1 => by
    show g0 (runP f (k : Int) f.Ways.length (lvK f c0 k)).2 q = _
    rw [keep_run (by rw [keep_lvK h k]; exact h), keep_lvK h k]
/-! ### One level -/
theorem spec_bits {R : Type} {n : Nat} (kx6 : List Int → Option R) {f : SFloor} (hO : FlOk f) {d p : Nat} {c : List Int} (hp : p < f.Ways.length) (hc : c.length = f.Ways.length) (hd : d ≤ 1000) (hn : 1000000000 < n) :
    loopN (fun (x : Int × List Int) J' => spec_Hops_L16 n kx6 (fun bit64 out65 => J' (bit64, out65)) (d : Int) (p : Int) x.1 f x.2) n ((0 : Int), c) = kx6 (stepP f (d : Int) c p) := by
  have done : ∀ fu (bit : Nat) (c' : List Int), c'.length = f.Ways.length → 0 < fu → (bit < 4 → ¬ g0 c' p < 0) → loopN (fun (x : Int × List Int) J' => spec_Hops_L16 n kx6 (fun bit64 out65 => J' (bit64, out65)) (d : Int) (p : Int) x.1 f x.2) fu ((bit : Int), c') = kx6 c' := by
    intro fu bit c' hc' hfu hg
    refine (loopN_step hfu _).trans ?_
    show spec_Hops_L16 n kx6 _ (d : Int) (p : Int) (bit : Int) f c' = _
    unfold spec_Hops_L16
    by_cases hb : bit < 4
    · rw [decide_eq_true (show (bit : Int) < 4 by omega), cond_true, ix_nat (by omega), Int.toNat_natCast, chk_dec (by omega), decide_eq_false (hg hb), cond_false]
    · rw [decide_eq_false (show ¬ (bit : Int) < 4 by omega), cond_false]
  by_cases hneg : g0 c p < 0
  · have hstep : ∀ (J : Int → List Int → Option R) (k : Nat), k < 4 → spec_Hops_L16 n kx6 J (d : Int) (p : Int) (k : Int) f c = bif hitP f (d : Int) c p k then J ((k + 1 : Nat) : Int) (c.set p ((d + 1 : Nat) : Int)) else J ((k + 1 : Nat) : Int) c := by
      intro J k hk4
      unfold spec_Hops_L16 spec_Hops_k1 hitP
      have hw : w64 ((k : Int) + 1) = ((k + 1 : Nat) : Int) := w64_succ (by omega)
      rw [decide_eq_true (show (k : Int) < 4 by omega), cond_true, ix_nat (by omega), Int.toNat_natCast, chk_dec (by omega), decide_eq_true hneg, cond_true, next_spec hO hp hk4, Option.bind_some, hw, bd_eq]
      rcases next_rng hO p k with hnx | ⟨h1, h2⟩
      · rw [decide_eq_false (show ¬ nextB f p k ≥ 0 by omega), cond_false, Bool.false_and, cond_false]
      · rw [decide_eq_true (show nextB f p k ≥ 0 by omega), cond_true, ix_of h1 (by omega), chk_dec (by omega), Bool.true_and]
        unfold spec_Hops_k0
        cases decide (c.getD (nextB f p k).toNat 0 = (d : Int)) with
        | true => rw [cond_true, ix_nat (by omega), chk_dec (by rw [Int.toNat_natCast]; omega), bd_eq, bd_eq, Int.toNat_natCast, hw, w64_succ (show d < 9223372036854775807 by omega)]; rfl
        | false => rw [cond_false, bd_eq, hw]; rfl
    have key : ∀ m k fu, k + m = 4 → m + 1 < fu → (∀ j, j < k → hitP f (d : Int) c p j = false) → loopN (fun (x : Int × List Int) J' => spec_Hops_L16 n kx6 (fun bit64 out65 => J' (bit64, out65)) (d : Int) (p : Int) x.1 f x.2) fu ((k : Int), c) = kx6 (stepP f (d : Int) c p) := by
      intro m
      induction m with
      | zero =>
        intro k fu hk hfu hh
        have hk : k = 4 := by omega
        rw [done fu k c hc (by omega) (by omega)]
        unfold stepP chgP
        rw [show (List.range 4).any (hitP f (d : Int) c p) = false from by
          rw [List.any_eq_false]
          intro j hj
          rw [hh j (by rw [hk]; exact List.mem_range.1 hj)]
          simp, Bool.and_false, cond_false]
      | succ m ih =>
        intro k fu hk hfu hh
        have hk4 : k < 4 := by omega
        refine (loopN_step (by omega) _).trans ((hstep _ k hk4).trans ?_)
        cases hhk : hitP f (d : Int) c p k with
        | true =>
          have hst : stepP f (d : Int) c p = c.set p ((d + 1 : Nat) : Int) := by
            unfold stepP chgP
            rw [decide_eq_true hneg, show (List.range 4).any (hitP f (d : Int) c p) = true from List.any_eq_true.2 ⟨k, List.mem_range.2 hk4, hhk⟩]
            rfl
          rw [hst]
          refine done (fu - 1) (k + 1) (c.set p ((d + 1 : Nat) : Int)) (by rw [List.length_set]; exact hc) (by omega) fun _ => ?_
          rw [set_get, if_pos ⟨rfl, by omega⟩]
          omega
        | false =>
          refine ih (k + 1) (fu - 1) (by omega) (by omega) fun j hj => ?_
          by_cases e : j = k
          · rw [e]; exact hhk
          · exact hh j (by omega)
    exact key 4 0 n (by omega) (by omega) fun j hj => absurd hj (Nat.not_lt_zero _)
  · have h := done n 0 c hc (by omega) fun _ => hneg
    refine h.trans ?_
    unfold stepP chgP
    rw [decide_eq_false hneg, Bool.false_and, cond_false]
theorem spec_level {R : Type} {n : Nat} (kx4 : List Int → Option R) {f : SFloor} (hO : FlOk f) {d : Nat} {c : List Int} (hc : c.length = f.Ways.length) (hd : d ≤ 1000) (hn : 1000000000 < n) :
    loopN (fun (x : Int × List Int) J' => spec_Hops_L13 n kx4 (fun p70 out71 => J' (p70, out71)) (d : Int) x.1 f x.2) n ((0 : Int), c) = kx4 (runP f (d : Int) f.Ways.length c).2 := by
  have hhi := hO.hi
  refine loop_runS (S := List Int) (X := Int × List Int) (enc := fun k s => (k, s)) (len := f.Ways.length) (I := fun k s => s = (runP f (d : Int) k c).2) (Q := fun r => r = kx4 (runP f (d : Int) f.Ways.length c).2) (fun k s J hk hi => ?_) (fun s J hi => ?_) (by omega) (s0 := c) rfl
  · refine ⟨_, rfl, ?_⟩
    have hl : s.length = f.Ways.length := by rw [hi, runP_len, hc]
    show spec_Hops_L13 n _ _ (d : Int) (k : Int) f s = _
    unfold spec_Hops_L13
    rw [decide_eq_true (show (k : Int) < (s.length : Int) by omega), cond_true, spec_bits _ hO hk hl hd hn, w64_succ (show k < 9223372036854775807 by omega), hi]
    rfl
  · have hl : s.length = f.Ways.length := by rw [hi, runP_len, hc]
    show spec_Hops_L13 n _ _ (d : Int) (f.Ways.length : Int) f s = _
    unfold spec_Hops_L13
    rw [decide_eq_false (by omega), cond_false, hi]
theorem any_lead (f : SFloor) (d : Int) (c : List Int) (p : Nat) : ∀ k, ((leadK f p k).any fun q => decide (g0 c q.toNat = d)) = (List.range k).any (hitP f d c p)
  | 0 => rfl
  | k + 1 => by
    rw [leadK_succ, any_range_succ, ← any_lead f d c p k]
    unfold hitP
    by_cases h : 0 ≤ nextB f p k
    · rw [decide_eq_true h, cond_true, List.any_append]
      simp
    · rw [decide_eq_false h, cond_false, Bool.false_and, Bool.or_false]
theorem lead_rng {f : SFloor} (hO : FlOk f) {p j k : Nat} (hj : j < (leadK f p k).length) : 0 ≤ (leadK f p k).getD j 0 ∧ (leadK f p k).getD j 0 < (f.Ways.length : Int) := by
  have hm := getD_mem (d := 0) hj
  unfold leadK at hm ⊢
  obtain ⟨h1, h2⟩ := List.mem_filter.1 hm
  obtain ⟨b, _, h3⟩ := List.mem_map.1 h1
  have h2 := of_decide_eq_true h2
  rcases next_rng hO p b with e | e
  · rw [← h3] at h2; omega
  · rw [← h3]; exact e
theorem hits_impl {n : Nat} {f : SFloor} (hO : FlOk f) {d : Int} {p : Nat} {c : List Int} (hc : c.length = f.Ways.length) (hn : 1000000000 < n) : slices_ContainsFunc_int_int__impl_Hops_1 n (leadK f p 4) c d = some ((List.range 4).any (hitP f d c p)) := by
  have hl := leadK_len f p 4
  unfold slices_ContainsFunc_int_int__impl_Hops_1 slices_IndexFunc_int_int__impl_Hops_1
  rw [loop_idx (p := fun k => decide (g0 c ((leadK f p 4).getD k 0).toNat = d)) (len := (leadK f p 4).length) (by omega) (fun k J h _ => ?_) (fun J _ => ?_) (by omega)]
  · rw [Option.bind_some, idxOf_ge, ← any_lead]
    congr 1
    exact range_any (d := 0) (f := fun q : Int => decide (g0 c q.toNat = d))
  · obtain ⟨q0, q1⟩ := lead_rng hO h
    unfold slices_IndexFunc_int_int__impl_Hops_1_L2 impl_Hops_1
    simp only [Int.ofNat_lt, h, decide_true, cond_true, ix_nat h, Int.toNat_natCast, ix_of q0 (show (leadK f p 4).getD k 0 < (c.length : Int) by omega), Option.bind_some, w64_succ (show k < 9223372036854775807 by omega)]
  · unfold slices_IndexFunc_int_int__impl_Hops_1_L2
    simp only [Int.lt_irrefl, decide_false, cond_false]
theorem impl_level {R : Type} {n : Nat} (kx4 : Bool → List Int → Option R) {f : SFloor} (hO : FlOk f) {d : Nat} {c : List Int} (hc : c.length = f.Ways.length) (hd : d ≤ 1000) (hn : 1000000000 < n) :
    loopN (fun (x : Bool × Int × List Int) J' => impl_Hops_L15 n kx4 (fun again65 t66 c67 => J' (again65, t66, c67)) x.1 (c.length : Int) x.2.1 f x.2.2 (d : Int)) n (false, (0 : Int), c) = kx4 (runP f (d : Int) f.Ways.length c).1 (runP f (d : Int) f.Ways.length c).2 := by
  have hhi := hO.hi
  refine loop_runS (S := Bool × List Int) (X := Bool × Int × List Int) (enc := fun k s => (s.1, k, s.2)) (len := f.Ways.length) (I := fun k s => s = runP f (d : Int) k c) (Q := fun r => r = kx4 (runP f (d : Int) f.Ways.length c).1 (runP f (d : Int) f.Ways.length c).2) (fun k s J hk hi => ?_) (fun s J hi => ?_) (by omega) (s0 := (false, c)) rfl
  · refine ⟨_, rfl, ?_⟩
    have hl : s.2.length = f.Ways.length := by rw [hi, runP_len, hc]
    show impl_Hops_L15 n _ _ s.1 (c.length : Int) (k : Int) f s.2 (d : Int) = _
    unfold impl_Hops_L15 impl_Hops_k0
    rw [decide_eq_true (show (k : Int) < (c.length : Int) by omega), cond_true]
    simp only [ix_nat (show k < s.2.length by omega), Int.toNat_natCast, chk_dec (show k < s.2.length by omega), leads_impl hO hk hn, hits_impl hO hl hn, Option.bind_some, bd_eq, w64_succ (show k < 9223372036854775807 by omega), w64_succ (show d < 9223372036854775807 by omega)]
    show _ = J ((runP f (d : Int) k c).1 || chgP f (d : Int) (runP f (d : Int) k c).2 k, ((k + 1 : Nat) : Int), stepP f (d : Int) (runP f (d : Int) k c).2 k)
    rw [← hi]
    unfold stepP chgP
    cases decide (g0 s.2 k < 0) with
    | false => rw [Bool.false_and, cond_false, cond_false, Bool.or_false]
    | true =>
      cases (List.range 4).any (hitP f (d : Int) s.2 k) with
      | false => rw [Bool.and_false, cond_true, cond_false, cond_false, Bool.or_false]
      | true => rw [Bool.and_true, cond_true, cond_true, cond_true, Bool.or_true]; rfl
  · have hl : s.2.length = f.Ways.length := by rw [hi, runP_len, hc]
    show impl_Hops_L15 n _ _ s.1 (c.length : Int) (f.Ways.length : Int) f s.2 (d : Int) = _
    unfold impl_Hops_L15
    rw [decide_eq_false (by omega), cond_false, hi]
/-! ### Hops -/
def iniK (m k : Nat) : List Int := List.replicate k (-1) ++ List.replicate (m - k) 0
theorem iniK_len {m k : Nat} (h : k ≤ m) : (iniK m k).length = m := by
  unfold iniK
  rw [List.length_append, List.length_replicate, List.length_replicate]
  omega
theorem iniK_set {m k : Nat} (h : k < m) : (iniK m k).set k (-1) = iniK m (k + 1) := by
  unfold iniK
  have h1 : (List.replicate k (-1 : Int)).length = k := List.length_replicate
  rw [List.set_append_right _ _ (by omega), h1, Nat.sub_self, show m - k = (m - (k + 1)) + 1 by omega, List.replicate_succ, List.set_cons_zero, List.replicate_succ', List.append_assoc]
  rfl
def start (m : Nat) (goal : Int) : List Int := (iniK m m).set goal.toNat 0
theorem start_get {m : Nat} {goal : Int} (h0 : 0 ≤ goal) (h1 : goal < (m : Int)) (p : Nat) : g0 (start m goal) p = if p = goal.toNat then 0 else if p < m then -1 else 0 := by
  unfold start
  rw [set_get, iniK_len (Nat.le_refl m)]
  by_cases e : p = goal.toNat
  · rw [if_pos ⟨e.symm, by omega⟩, if_pos e]
  · rw [if_neg (fun x => e x.1.symm), if_neg e]
    unfold g0 iniK
    rw [Nat.sub_self, List.replicate_zero, List.append_nil]
    by_cases h : p < m
    · rw [if_pos h, getD_eq (by rw [List.length_replicate]; exact h), List.getElem_replicate]
    · rw [if_neg h, List.getD, List.getElem?_eq_none (by rw [List.length_replicate]; omega)]; rfl
theorem start_under {m : Nat} {goal : Int} (h0 : 0 ≤ goal) (h1 : goal < (m : Int)) : under (start m goal) 0 := by
  intro p
  rw [start_get h0 h1]
  split
  · omega
  · split <;> omega
theorem start_len {m : Nat} {goal : Int} : (start m goal).length = m := by
  unfold start
  rw [List.length_set, iniK_len (Nat.le_refl m)]
theorem neg_rep (m : Nat) : neg (List.replicate m (-1)) = m := by
  induction m with
  | zero => rfl
  | succ m ih =>
    unfold neg at ih ⊢
    rw [List.replicate_succ, List.filter_cons_of_pos (by simp), List.length_cons, ih]
theorem start_neg {m : Nat} {goal : Int} (h0 : 0 ≤ goal) (h1 : goal < (m : Int)) : neg (start m goal) + 1 = m := by
  have e : iniK m m = List.replicate m (-1) := by unfold iniK; rw [Nat.sub_self, List.replicate_zero, List.append_nil]
  unfold start
  rw [e, neg_set _ _ _ (by rw [List.length_replicate]; omega) ?_ (by omega), neg_rep]
  unfold g0
  rw [getD_eq (by rw [List.length_replicate]; omega), List.getElem_replicate]
  omega
def hopsL (f : SFloor) (goal : Int) : List Int := lvK f (start f.Ways.length goal) f.Ways.length
def hopsB (f : SFloor) (goal : Int) : List Int × Bool := bif floorB f && placeB f goal then (hopsL f goal, true) else ([], false)
theorem hops_spec {n : Nat} (f : SFloor) (goal : Int) (hl : f.Ways.length ≤ 1048576) (hn : 1000000000 < n) : spec_Hops n f goal = some (hopsB f goal) := by
  unfold spec_Hops hopsB
  rw [floor_spec f hl hn, Option.bind_some]
  cases hf : floorB f with
  | false => rfl
  | true =>
    have hO := flOk hf
    have hhi := hO.hi
    have hlen := hO.len
    have hm := mul_le hO.w hO.h
    rw [bd_eq, w64_id (by omega) (by omega), in_spec, Option.bind_some]
    by_cases hp : 0 ≤ goal ∧ goal ≤ (f.Ways.length : Int) - 1
    · rw [decide_eq_true hp, show placeB f goal = true from decide_eq_true hp]
      simp only [Bool.not_true, cond_false, Bool.true_and, cond_true]
      unfold spec_Hops_k2
      rw [chk_dec (by omega), chk_dec (by omega), chk_dec (by omega), Int.toNat_natCast]
      refine loop_runS (S := List Int) (X := Int × List Int) (enc := fun k s => (k, s)) (len := f.Ways.length) (I := fun k s => s = iniK f.Ways.length k) (Q := fun r => r = some (hopsL f goal, true)) (fun k s J hk hi => ?_) (fun s J hi => ?_) (by omega) (s0 := _) rfl
      · refine ⟨_, rfl, ?_⟩
        have hsl : s.length = f.Ways.length := by rw [hi, iniK_len (by omega)]
        show spec_Hops_L5 n _ _ goal (k : Int) f s = _
        unfold spec_Hops_L5
        rw [decide_eq_true (show (k : Int) < (s.length : Int) by omega), cond_true, ix_nat (by omega), Int.toNat_natCast, chk_dec (by omega), bd_eq, w64_succ (by omega), hi, iniK_set hk]
      · have hsl : s.length = f.Ways.length := by rw [hi, iniK_len (by omega)]
        show spec_Hops_L5 n _ _ goal (f.Ways.length : Int) f s = _
        unfold spec_Hops_L5
        rw [decide_eq_false (by omega), cond_false]
        dsimp only
        rw [ix_of hp.1 (by omega), chk_dec (by omega), bd_eq, hi]
        refine loop_runS (S := List Int) (X := Int × List Int) (enc := fun k s => (k, s)) (len := f.Ways.length) (I := fun k s => s = lvK f (start f.Ways.length goal) k) (Q := fun r => r = some (hopsL f goal, true)) (fun k s J hk hi => ?_) (fun s J hi => ?_) (by omega) (s0 := _) rfl
        · refine ⟨_, rfl, ?_⟩
          have hsl : s.length = f.Ways.length := by rw [hi, lvK_len, start_len]
          show spec_Hops_L10 n _ _ (k : Int) f s = _
          unfold spec_Hops_L10
          rw [decide_eq_true (show (k : Int) < (s.length : Int) by omega), cond_true, spec_level _ hO hsl (by omega) hn, w64_succ (by omega), hi]
          rfl
        · have hsl : s.length = f.Ways.length := by rw [hi, lvK_len, start_len]
          show spec_Hops_L10 n _ _ (f.Ways.length : Int) f s = _
          unfold spec_Hops_L10
          rw [decide_eq_false (by omega), cond_false, hi]
          rfl
    · rw [decide_eq_false hp, show placeB f goal = false from decide_eq_false hp]
      rfl
theorem hops_impl {n : Nat} (f : SFloor) (goal : Int) (hl : f.Ways.length ≤ 1048576) (hn : 1000000000 < n) : impl_Hops n f goal = some (hopsB f goal) := by
  unfold impl_Hops hopsB
  rw [floor_impl f hl hn, Option.bind_some]
  cases hf : floorB f with
  | false => rfl
  | true =>
    have hO := flOk hf
    have hhi := hO.hi
    have hlen := hO.len
    have hm := mul_le hO.w hO.h
    rw [place_impl hO, Option.bind_some]
    by_cases hp : 0 ≤ goal ∧ goal ≤ (f.Ways.length : Int) - 1
    · rw [show placeB f goal = true from decide_eq_true hp]
      simp only [Bool.not_true, cond_false, Bool.true_and, cond_true]
      unfold impl_Hops_k1
      rw [chk_dec (by omega), chk_dec (by omega), chk_dec (by omega), Int.toNat_natCast, List.length_replicate]
      refine loop_runS (S := List Int) (X := Int × List Int) (enc := fun k s => (k, s)) (len := f.Ways.length) (I := fun k s => s = iniK f.Ways.length k) (Q := fun r => r = some (hopsL f goal, true)) (fun k s J hk hi => ?_) (fun s J hi => ?_) (by omega) (s0 := _) rfl
      · refine ⟨_, rfl, ?_⟩
        have hsl : s.length = f.Ways.length := by rw [hi, iniK_len (by omega)]
        show impl_Hops_L5 n _ _ goal (f.Ways.length : Int) (k : Int) f s = _
        unfold impl_Hops_L5
        rw [decide_eq_true (show (k : Int) < (f.Ways.length : Int) by omega), cond_true, ix_nat (by omega), Int.toNat_natCast, chk_dec (by omega), w64_succ (by omega), hi, iniK_set hk]
      · have hsl : s.length = f.Ways.length := by rw [hi, iniK_len (by omega)]
        show impl_Hops_L5 n _ _ goal (f.Ways.length : Int) (f.Ways.length : Int) f s = _
        unfold impl_Hops_L5
        rw [decide_eq_false (by omega), cond_false]
        dsimp only
        rw [ix_of hp.1 (by omega), chk_dec (by omega), bd_eq, hi]
        have hu := start_under (m := f.Ways.length) hp.1 (by omega)
        have hne := start_neg (m := f.Ways.length) hp.1 (by omega)
        have key : ∀ m k fu, neg (lvK f (start f.Ways.length goal) k) ≤ m → m + 1 < fu → neg (lvK f (start f.Ways.length goal) k) + k + 1 ≤ f.Ways.length →
            loopN (fun (x : Bool × List Int × Int) J' => impl_Hops_L11 n (fun c68 => some (c68, true)) (fun again69 c70 n71 => J' (again69, c70, n71)) x.1 f x.2.1 x.2.2) fu (true, lvK f (start f.Ways.length goal) k, (k : Int)) = some (hopsL f goal, true) := by
          intro m
          induction m with
          | zero =>
            intro k fu h1 h2 h3
            have hsl : (lvK f (start f.Ways.length goal) k).length = f.Ways.length := by rw [lvK_len, start_len]
            have hst : (runP f (k : Int) f.Ways.length (lvK f (start f.Ways.length goal) k)).1 = false := by
              rw [Bool.eq_false_iff]
              intro h
              have := (neg_runP (f := f) (d := (k : Int)) (c := lvK f (start f.Ways.length goal) k) (by omega) f.Ways.length (by omega)).2 h
              omega
            have hfin := lvK_stop (f := f) hu hst (f.Ways.length - k)
            rw [show k + (f.Ways.length - k) = f.Ways.length from by omega] at hfin
            refine (loopN_step (by omega) _).trans ?_
            show impl_Hops_L11 n _ _ true f _ (k : Int) = _
            unfold impl_Hops_L11
            rw [cond_true, impl_level _ hO hsl (by omega) hn, hst, runP_same f (k : Int) _ f.Ways.length hst]
            refine (loopN_step (by omega) _).trans ?_
            show (bif false then _ else some (lvK f (start f.Ways.length goal) k, true)) = _
            rw [cond_false]
            unfold hopsL
            rw [hfin]
          | succ m ih =>
            intro k fu h1 h2 h3
            have hsl : (lvK f (start f.Ways.length goal) k).length = f.Ways.length := by rw [lvK_len, start_len]
            refine (loopN_step (by omega) _).trans ?_
            show impl_Hops_L11 n _ _ true f _ (k : Int) = _
            cases hst : (runP f (k : Int) f.Ways.length (lvK f (start f.Ways.length goal) k)).1 with
            | false =>
              have hfin := lvK_stop (f := f) hu hst (f.Ways.length - k)
              rw [show k + (f.Ways.length - k) = f.Ways.length from by omega] at hfin
              unfold impl_Hops_L11
              rw [cond_true, impl_level _ hO hsl (by omega) hn, hst, runP_same f (k : Int) _ f.Ways.length hst]
              refine (loopN_step (by omega) _).trans ?_
              show (bif false then _ else some (lvK f (start f.Ways.length goal) k, true)) = _
              rw [cond_false]
              unfold hopsL
              rw [hfin]
            | true =>
              have h4 := (neg_runP (f := f) (d := (k : Int)) (c := lvK f (start f.Ways.length goal) k) (by omega) f.Ways.length (by omega)).2 hst
              have h5 : neg (lvK f (start f.Ways.length goal) (k + 1)) < neg (lvK f (start f.Ways.length goal) k) := h4
              have hi := ih (k + 1) (fu - 1) (by omega) (by omega) (by omega)
              have hstep : ∀ J : Bool → List Int → Int → Option (List Int × Bool), impl_Hops_L11 n (fun c68 => some (c68, true)) J true f (lvK f (start f.Ways.length goal) k) (k : Int) = J true (lvK f (start f.Ways.length goal) (k + 1)) ((k + 1 : Nat) : Int) := by
                intro J
                unfold impl_Hops_L11
                rw [cond_true, impl_level _ hO hsl (by omega) hn, hst, w64_succ (by omega)]
                rfl
              exact (hstep _).trans hi
        exact key (neg (start f.Ways.length goal)) 0 n (Nat.le_refl _) (by omega) (by show neg (start f.Ways.length goal) + 0 + 1 ≤ _; omega)
    · rw [show placeB f goal = false from decide_eq_false hp]
      rfl
end Go.Sm
end

section
set_option linter.unusedSimpArgs false
set_option linter.deprecated false
set_option linter.unusedSectionVars false
set_option linter.unusedVariables false
set_option linter.unusedSimpArgs false
namespace Go.Sm
attribute [local irreducible] bd chk ix loopN
theorem find_getD {α β : Type} {d : α} {P : α → Bool} {g : α → β} {z : β} : ∀ l : List α, (match (List.range l.length).find? (fun k => P (l.getD k d)) with | some k => g (l.getD k d) | none => z) = match l.find? P with | some q => g q | none => z
  | [] => rfl
  | a :: l => by
    have ih := find_getD (d := d) (P := P) (g := g) (z := z) l
    rw [List.length_cons, List.range_succ_eq_map, List.find?_cons, List.find?_cons, List.find?_map]
    show (match (match P a with | true => some 0 | false => ((List.range l.length).find? ((fun k => P ((a :: l).getD k d)) ∘ Nat.succ)).map Nat.succ) with | some k => g ((a :: l).getD k d) | none => z) = _
    cases P a with
    | true => rfl
    | false =>
      have e : ((fun k => P ((a :: l).getD k d)) ∘ Nat.succ) = fun k => P (l.getD k d) := rfl
      rw [e, ← ih]
      cases (List.range l.length).find? (fun k => P (l.getD k d)) <;> rfl
/-! ### What a cart wants -/
def lessQ (h : List Int) (p : Nat) (q : Int) : Bool := decide (g0 h q.toNat ≥ 0) && decide (g0 h q.toNat < g0 h p)
def firstQ (f : SFloor) (h : List Int) (p : Nat) : Int := match (leadK f p 4).find? (lessQ h p) with | some q => q | none => -1
def wantB (f : SFloor) (c : SCart) : Int := bif decide (c.Goal < 0) then -1 else bif decide (g0 (hopsL f c.Goal) c.At.toNat ≤ 0) then -1 else firstQ f (hopsL f c.Goal) c.At.toNat
structure CtOk (f : SFloor) (c : SCart) : Prop where
  at_ : 0 ≤ c.At ∧ c.At < (f.Ways.length : Int)
  goal : -1 ≤ c.Goal ∧ c.Goal < (f.Ways.length : Int)
theorem hopsL_len (f : SFloor) (goal : Int) : (hopsL f goal).length = f.Ways.length := by
  unfold hopsL
  rw [lvK_len, start_len]
theorem hops_goal {f : SFloor} {goal : Int} (h0 : 0 ≤ goal) (h1 : goal < (f.Ways.length : Int)) : g0 (hopsL f goal) goal.toNat = 0 := by
  have h := start_get (m := f.Ways.length) h0 h1 goal.toNat
  rw [if_pos rfl] at h
  unfold hopsL
  rw [keep_lvK (by rw [h]; exact Int.le_refl _), h]
theorem firstQ_spec {f : SFloor} (hO : FlOk f) (h : List Int) (p : Nat) : firstQ f h p < 0 ∨ (firstQ f h p ≠ (p : Int) ∧ 0 ≤ firstQ f h p ∧ firstQ f h p < (f.Ways.length : Int)) := by
  unfold firstQ
  cases hf : (leadK f p 4).find? (lessQ h p) with
  | none => left; show (-1 : Int) < 0; omega
  | some q =>
    right
    have h1 := List.find?_some hf
    have h2 := List.mem_of_find?_eq_some hf
    obtain ⟨j, hj, rfl⟩ := List.getElem_of_mem h2
    have h3 := lead_rng hO hj
    rw [getD_eq hj] at h3
    refine ⟨fun e => ?_, h3.1, h3.2⟩
    have e : (leadK f p 4)[j] = (p : Int) := e
    unfold lessQ at h1
    rw [Bool.and_eq_true] at h1
    have h4 := of_decide_eq_true h1.2
    rw [e, Int.toNat_natCast] at h4
    omega
theorem wantB_spec {f : SFloor} (hO : FlOk f) {c : SCart} (hc : CtOk f c) : wantB f c < 0 ∨ (wantB f c ≠ c.At ∧ 0 ≤ wantB f c) := by
  unfold wantB
  cases decide (c.Goal < 0) with
  | true => left; show (-1 : Int) < 0; omega
  | false =>
    cases decide (g0 (hopsL f c.Goal) c.At.toNat ≤ 0) with
    | true => left; show (-1 : Int) < 0; omega
    | false =>
      have h1 := hc.at_
      rcases firstQ_spec hO (hopsL f c.Goal) c.At.toNat with e | e
      · exact .inl e
      · refine .inr ⟨?_, e.2.1⟩
        show firstQ f (hopsL f c.Goal) c.At.toNat ≠ c.At
        have := e.1
        omega
theorem bits_first (f : SFloor) (h : List Int) (p : Nat) : (match (List.range 4).find? (fun j => decide (0 ≤ nextB f p j) && lessQ h p (nextB f p j)) with | some j => some (nextB f p j) | none => some (-1)) = some (firstQ f h p) := by
  unfold firstQ leadK
  rw [List.find?_filter, List.find?_map]
  rw [show ((fun a => decide (decide (0 ≤ a) = true ∧ lessQ h p a = true)) ∘ nextB f p) = (fun j => decide (0 ≤ nextB f p j) && lessQ h p (nextB f p j)) from by
    funext j
    show decide (decide (0 ≤ nextB f p j) = true ∧ lessQ h p (nextB f p j) = true) = _
    cases decide (0 ≤ nextB f p j) <;> cases lessQ h p (nextB f p j) <;> simp]
  cases (List.range 4).find? (fun j => decide (0 ≤ nextB f p j) && lessQ h p (nextB f p j)) <;> rfl
theorem want_spec {n : Nat} {f : SFloor} (hf : floorB f = true) (hl : f.Ways.length ≤ 1048576) {c : SCart} (hc : CtOk f c) (hn : 1000000000 < n) : spec_l19Want n f c = some (wantB f c) := by
  have hO := flOk hf
  have h1 := hc.at_
  have h2 := hc.goal
  unfold spec_l19Want wantB
  by_cases cg : c.Goal < 0
  · rw [decide_eq_true cg]; rfl
  · rw [decide_eq_false cg, cond_false, cond_false]
    by_cases ce : c.Goal = c.At
    · have := hops_goal (f := f) (goal := c.Goal) (by omega) (by omega)
      rw [ce] at this
      rw [decide_eq_true ce, cond_true, ce, decide_eq_true (show g0 (hopsL f c.At) c.At.toNat ≤ 0 by omega), cond_true]
    · have hh : hopsB f c.Goal = (hopsL f c.Goal, true) := by
        unfold hopsB
        rw [hf, show placeB f c.Goal = true from decide_eq_true (by omega)]
        rfl
      rw [decide_eq_false ce, cond_false, hops_spec f c.Goal hl hn, Option.bind_some, hh]
      have hlen := hopsL_len f c.Goal
      dsimp only
      obtain ⟨p, hp⟩ : ∃ p : Nat, c.At = (p : Int) := ⟨c.At.toNat, by omega⟩
      have hpl : p < f.Ways.length := by omega
      by_cases cz : g0 (hopsL f c.Goal) c.At.toNat ≤ 0
      · rw [decide_eq_true cz, cond_true]
        refine (loopN_step (by omega) _).trans ?_
        unfold spec_l19Want_L5
        rw [decide_eq_true (show (0 : Int) < 4 by omega), cond_true, ix_of h1.1 (by omega), chk_dec (by omega), decide_eq_false (show ¬ (hopsL f c.Goal).getD c.At.toNat 0 > 0 by have : g0 (hopsL f c.Goal) c.At.toNat = (hopsL f c.Goal).getD c.At.toNat 0 := rfl; omega), cond_false]
      · rw [decide_eq_false cz, cond_false, hp, Int.toNat_natCast, ← bits_first]
        rw [hp, Int.toNat_natCast] at cz
        refine loop_find (p := fun j => decide (0 ≤ nextB f p j) && lessQ (hopsL f c.Goal) p (nextB f p j)) (len := 4) (yes := fun j => some (nextB f p j)) (no := some (-1)) (by omega) (fun k J hk _ => ?_) (fun J _ => ?_) (by omega)
        · unfold spec_l19Want_L5 spec_l19Want_k0 lessQ
          have e0 : (hopsL f c.Goal).getD p 0 = g0 (hopsL f c.Goal) p := rfl
          rw [hp]
          simp only [decide_eq_true (show (k : Int) < 4 by omega), cond_true, ix_nat (show p < (hopsL f c.Goal).length by omega), Int.toNat_natCast, chk_dec (show p < (hopsL f c.Goal).length by omega), e0, decide_eq_true (show g0 (hopsL f c.Goal) p > 0 by omega), next_spec hO hpl hk, Option.bind_some, bd_eq, w64_succ (show k < 9223372036854775807 by omega)]
          rcases next_rng hO p k with hnx | ⟨q1, q2⟩
          · rw [decide_eq_false (show ¬ nextB f p k ≥ 0 by omega), cond_false, Bool.false_and, cond_false]
          · rw [decide_eq_true (show nextB f p k ≥ 0 by omega), cond_true, ix_of q1 (by omega), chk_dec (by omega), Bool.true_and]
            show (bif decide (g0 (hopsL f c.Goal) (nextB f p k).toNat ≥ 0) then ix _ _ (chk _ (bif decide (g0 (hopsL f c.Goal) (nextB f p k).toNat < g0 (hopsL f c.Goal) p) then _ else _)) else _) = _
            rw [ix_of q1 (by omega), chk_dec (by omega)]
            cases decide (g0 (hopsL f c.Goal) (nextB f p k).toNat ≥ 0) <;> cases decide (g0 (hopsL f c.Goal) (nextB f p k).toNat < g0 (hopsL f c.Goal) p) <;> rfl
        · unfold spec_l19Want_L5
          rw [decide_eq_false (by omega), cond_false]
theorem want_impl {n : Nat} {f : SFloor} (hf : floorB f = true) (hl : f.Ways.length ≤ 1048576) {c : SCart} (hc : CtOk f c) (hn : 1000000000 < n) : impl_Floor_want n f c = some (wantB f c) := by
  have hO := flOk hf
  have h1 := hc.at_
  have h2 := hc.goal
  unfold impl_Floor_want wantB
  rw [hops_impl f c.Goal hl hn, Option.bind_some]
  by_cases cg : c.Goal < 0
  · have hh : hopsB f c.Goal = ([], false) := by
      unfold hopsB
      rw [show placeB f c.Goal = false from decide_eq_false (by omega), Bool.and_false]
      rfl
    rw [hh, decide_eq_true cg]
    rfl
  · have hh : hopsB f c.Goal = (hopsL f c.Goal, true) := by
      unfold hopsB
      rw [hf, show placeB f c.Goal = true from decide_eq_true (by omega)]
      rfl
    have hlen := hopsL_len f c.Goal
    rw [hh, decide_eq_false cg, cond_false]
    dsimp only
    rw [Bool.not_true, cond_false, ix_of h1.1 (by omega), chk_dec (by omega)]
    show (bif decide (g0 (hopsL f c.Goal) c.At.toNat ≤ 0) then _ else _) = _
    by_cases cz : g0 (hopsL f c.Goal) c.At.toNat ≤ 0
    · rw [decide_eq_true cz]; rfl
    · rw [decide_eq_false cz, cond_false, cond_false]
      obtain ⟨p, hp⟩ : ∃ p : Nat, c.At = (p : Int) := ⟨c.At.toNat, by omega⟩
      have hpl : p < f.Ways.length := by omega
      have hll := leadK_len f p 4
      rw [hp, Int.toNat_natCast, leads_impl hO hpl hn, Option.bind_some]
      have hr : some (firstQ f (hopsL f c.Goal) p) = match (List.range (leadK f p 4).length).find? (fun k => lessQ (hopsL f c.Goal) p ((leadK f p 4).getD k 0)) with | some k => some ((leadK f p 4).getD k 0) | none => some (-1) := by
        rw [find_getD (d := (0 : Int)) (P := lessQ (hopsL f c.Goal) p) (g := some) (z := some (-1))]
        unfold firstQ
        cases (leadK f p 4).find? (lessQ (hopsL f c.Goal) p) <;> rfl
      rw [hr]
      refine loop_find (p := fun k => lessQ (hopsL f c.Goal) p ((leadK f p 4).getD k 0)) (len := (leadK f p 4).length) (yes := fun k => some ((leadK f p 4).getD k 0)) (no := some (-1)) (by omega) (fun k J hk _ => ?_) (fun J _ => ?_) (by omega)
      · obtain ⟨q1, q2⟩ := lead_rng hO hk
        unfold impl_Floor_want_L5 impl_Floor_want_k0 lessQ
        rw [hp]
        simp only [Int.ofNat_lt, hk, decide_true, cond_true, ix_nat hk, Int.toNat_natCast, chk_true, ix_of q1 (show (leadK f p 4).getD k 0 < ((hopsL f c.Goal).length : Int) by omega), chk_dec (show ((leadK f p 4).getD k 0).toNat < (hopsL f c.Goal).length by omega), ix_nat (show p < (hopsL f c.Goal).length by omega), chk_dec (show p < (hopsL f c.Goal).length by omega), w64_succ (show k < 9223372036854775807 by omega)]
        show (bif decide (g0 (hopsL f c.Goal) ((leadK f p 4).getD k 0).toNat ≥ 0) then (bif decide (g0 (hopsL f c.Goal) ((leadK f p 4).getD k 0).toNat < g0 (hopsL f c.Goal) p) then _ else _) else _) = _
        cases decide (g0 (hopsL f c.Goal) ((leadK f p 4).getD k 0).toNat ≥ 0) <;> cases decide (g0 (hopsL f c.Goal) ((leadK f p 4).getD k 0).toNat < g0 (hopsL f c.Goal) p) <;> rfl
      · unfold impl_Floor_want_L5
        simp only [Int.lt_irrefl, decide_false, cond_false]
end Go.Sm
end

section
set_option linter.unusedSimpArgs false
set_option linter.deprecated false
set_option linter.unusedSectionVars false
set_option linter.unusedVariables false
set_option linter.unusedSimpArgs false
namespace Go.Sm
attribute [local irreducible] bd chk ix loopN
theorem loop_any {R : Type} {b : Int → (Int → Option R) → Option R} {len : Nat} {p : Nat → Bool} {yes no : Option R} (hlen : len ≤ 9223372036854775807)
    (hstep : ∀ (k : Nat) (J : Int → Option R), k < len → b (k : Int) J = bif p k then yes else J ((k + 1 : Nat) : Int)) (hfin : ∀ J, b (len : Int) J = no) {n : Nat} (hn : len < n) :
    loopN b n (0 : Int) = bif (List.range len).any p then yes else no := by
  rw [loop_all (p := fun k => !p k) (len := len) (no := yes) (yes := no) hlen (fun k J h _ => by rw [hstep k J h, bif_not]) (fun J _ => hfin J) hn, List.any_eq_not_all_not, bif_not]
/-! ### Strikes -/
def metB (l : List SCart) (w : List Int) (i k : Nat) : Bool := decide ((ct l k).At = g0 w i) && (decide (g0 w k < 0) || decide (g0 w k = (ct l i).At))
def hitS (l : List SCart) (w : List Int) (i k : Nat) : Bool := (decide ((k : Int) < (i : Int)) && decide (g0 w k = g0 w i)) || metB l w i k
def struckB (l : List SCart) (w : List Int) (i : Nat) : Bool := !decide (g0 w i < 0) && (List.range l.length).any (hitS l w i)
structure WOk (l : List SCart) (w : List Int) : Prop where
  len : w.length = l.length
  far : ∀ i, i < l.length → g0 w i < 0 ∨ g0 w i ≠ (ct l i).At
theorem WOk.strike {l : List SCart} {w : List Int} (h : WOk l w) (i : Nat) : WOk l (w.set i (-1)) := by
  refine ⟨by rw [List.length_set]; exact h.len, fun k hk => ?_⟩
  rw [set_get]
  split
  · left; omega
  · exact h.far k hk
theorem struck_spec {n : Nat} {l : List SCart} {w : List Int} (h : WOk l w) (hl : l.length ≤ 12) {i : Nat} (hi : i < l.length) (hn : 1000000000 < n) : spec_l19Struck n l w (i : Int) = some (struckB l w i) := by
  have hwl := h.len
  unfold spec_l19Struck struckB
  rw [ix_nat (by omega), Int.toNat_natCast]
  show (bif decide (g0 w i < 0) then _ else _) = _
  cases decide (g0 w i < 0) with
  | true => rfl
  | false =>
    rw [cond_false, loop_any (p := hitS l w i) (len := l.length) (yes := some true) (no := some false) (by omega) (fun k J hk => ?_) (fun J => ?_) (by omega)]
    · rw [bif_tf]; rfl
    · unfold spec_l19Struck_L4 spec_l19Struck_k0 hitS metB
      simp only [Int.ofNat_lt, hk, decide_true, cond_true, ix_nat (show k < w.length by omega), ix_nat (show i < w.length by omega), ix_nat hk, ix_nat hi, Int.toNat_natCast, bd_eq, w64_succ (show k < 9223372036854775807 by omega)]
      cases decide (k < i) <;> cases decide (g0 w k = g0 w i) <;> cases decide ((ct l k).At = g0 w i) <;> cases decide (g0 w k < 0) <;> cases decide (g0 w k = (ct l i).At) <;> rfl
    · unfold spec_l19Struck_L4
      simp only [Int.lt_irrefl, decide_false, cond_false]
theorem struck_impl {n : Nat} {l : List SCart} {w : List Int} (h : WOk l w) (hl : l.length ≤ 12) {i : Nat} (hi : i < l.length) (hn : 1000000000 < n) : impl_Round_1 n (i : Int) w l = some (struckB l w i) := by
  have hwl := h.len
  unfold impl_Round_1 struckB
  rw [ix_nat (by omega), Int.toNat_natCast]
  show (bif decide (g0 w i < 0) then _ else _) = _
  by_cases hneg : g0 w i < 0
  · rw [decide_eq_true hneg]; rfl
  · have hfar : g0 w i ≠ (ct l i).At := (h.far i hi).resolve_left hneg
    rw [decide_eq_false hneg, cond_false, loop_any (p := hitS l w i) (len := l.length) (yes := some true) (no := some false) (by omega) (fun k J hk => ?_) (fun J => ?_) (by omega)]
    · rw [bif_tf]; rfl
    · unfold impl_Round_1_L5 impl_Round_1_k0 hitS metB
      simp only [Int.ofNat_lt, hk, decide_true, cond_true, ix_nat (show k < w.length by omega), ix_nat (show i < w.length by omega), ix_nat hk, ix_nat hi, Int.toNat_natCast, bd_eq, w64_succ (show k < 9223372036854775807 by omega)]
      by_cases e : k = i
      · subst e
        rw [decide_eq_true (show (k : Int) = (k : Int) from rfl), decide_eq_false (show ¬ k < k by omega), decide_eq_false (show ¬ (ct l k).At = g0 w k from fun x => hfar x.symm)]
        rfl
      · rw [decide_eq_false (show ¬ (k : Int) = (i : Int) by omega)]
        cases decide (k < i) <;> cases decide (g0 w k = g0 w i) <;> cases decide ((ct l k).At = g0 w i) <;> cases decide (g0 w k < 0) <;> cases decide (g0 w k = (ct l i).At) <;> rfl
    · unfold impl_Round_1_L5
      simp only [Int.lt_irrefl, decide_false, cond_false]
def firstS (l : List SCart) (w : List Int) : Option Nat := (List.range l.length).find? (struckB l w)
def runS (l : List SCart) : Nat → List Int → List Int
  | 0, w => w
  | m + 1, w => match firstS l w with
    | some i => runS l m (w.set i (-1))
    | none => w
theorem firstS_some {l : List SCart} {w : List Int} {i : Nat} (h : firstS l w = some i) : i < l.length ∧ 0 ≤ g0 w i := by
  unfold firstS at h
  have h1 := List.find?_some h
  have h2 := List.mem_range.1 (List.mem_of_find?_eq_some h)
  refine ⟨h2, ?_⟩
  unfold struckB at h1
  rw [Bool.and_eq_true, Bool.not_eq_true', decide_eq_false_iff_not] at h1
  omega
def posC (w : List Int) : Nat := (w.filter fun x => decide (0 ≤ x)).length
theorem posC_set : ∀ (c : List Int) (p : Nat), p < c.length → 0 ≤ g0 c p → posC (c.set p (-1)) + 1 = posC c
  | [], _, h, _ => absurd h (Nat.not_lt_zero _)
  | x :: c, 0, _, hx => by
    have hx : 0 ≤ x := hx
    unfold posC
    rw [List.set_cons_zero, List.filter_cons_of_neg (by simp), List.filter_cons_of_pos (by simpa using hx)]
    rfl
  | x :: c, p + 1, h, hx => by
    have ih := posC_set c p (Nat.lt_of_succ_lt_succ h) hx
    unfold posC at ih ⊢
    rw [List.set_cons_succ]
    by_cases c1 : 0 ≤ x
    · rw [List.filter_cons_of_pos (by simpa using c1), List.filter_cons_of_pos (by simpa using c1), List.length_cons, List.length_cons]
      omega
    · rw [List.filter_cons_of_neg (by simpa using c1), List.filter_cons_of_neg (by simpa using c1)]
      exact ih
theorem posC_le (w : List Int) : posC w ≤ w.length := List.length_filter_le _ _
theorem runS_ok {l : List SCart} : ∀ m {w : List Int}, WOk l w → WOk l (runS l m w)
  | 0, _, h => h
  | m + 1, w, h => by
    unfold runS
    cases firstS l w with
    | none => exact h
    | some i => exact runS_ok m (h.strike i)
/-- One search of the reference. -/
theorem spec_search {R : Type} {n : Nat} (kx4 : Bool → List Int → Option R) {l : List SCart} {w : List Int} (h : WOk l w) (hl : l.length ≤ 12) (hn : 1000000000 < n) :
    loopN (fun (x : Bool × Int × List Int) J' => spec_Round_L12 n kx4 (fun again48 i49 wants50 => J' (again48, i49, wants50)) l x.1 x.2.1 x.2.2) n (false, (0 : Int), w) = match firstS l w with | some i => kx4 true (w.set i (-1)) | none => kx4 false w := by
  have hwl := h.len
  have done : ∀ fu (i : Int) (w' : List Int), 0 < fu → loopN (fun (x : Bool × Int × List Int) J' => spec_Round_L12 n kx4 (fun again48 i49 wants50 => J' (again48, i49, wants50)) l x.1 x.2.1 x.2.2) fu (true, i, w') = kx4 true w' := by
    intro fu i w' hfu
    refine (loopN_step hfu _).trans ?_
    show spec_Round_L12 n kx4 _ l true i w' = _
    unfold spec_Round_L12
    cases decide (i < (l.length : Int)) <;> rfl
  have hstep : ∀ (J : Bool → Int → List Int → Option R) (k : Nat), k < l.length → spec_Round_L12 n kx4 J l false (k : Int) w = bif struckB l w k then J true ((k + 1 : Nat) : Int) (w.set k (-1)) else J false ((k + 1 : Nat) : Int) w := by
    intro J k hk
    unfold spec_Round_L12 spec_Round_k0
    simp only [Int.ofNat_lt, hk, decide_true, cond_true, Bool.not_false, struck_spec h hl hk hn, Option.bind_some, ix_nat (show k < w.length by omega), Int.toNat_natCast, chk_dec (show k < w.length by omega), bd_eq, w64_succ (show k < 9223372036854775807 by omega)]
  have key : ∀ m k fu, k + m = l.length → m + 1 < fu → (∀ j, j < k → struckB l w j = false) → loopN (fun (x : Bool × Int × List Int) J' => spec_Round_L12 n kx4 (fun again48 i49 wants50 => J' (again48, i49, wants50)) l x.1 x.2.1 x.2.2) fu (false, (k : Int), w) = match firstS l w with | some i => kx4 true (w.set i (-1)) | none => kx4 false w := by
    intro m
    induction m with
    | zero =>
      intro k fu hk hfu hh
      have hnone : firstS l w = none := find_range_none fun j hj => hh j (by omega)
      rw [hnone]
      refine (loopN_step (by omega) _).trans ?_
      show spec_Round_L12 n kx4 _ l false (k : Int) w = _
      unfold spec_Round_L12
      rw [decide_eq_false (by omega), cond_false]
    | succ m ih =>
      intro k fu hk hfu hh
      refine (loopN_step (by omega) _).trans ((hstep _ k (by omega)).trans ?_)
      cases hs : struckB l w k with
      | true =>
        rw [cond_true, show firstS l w = some k from find_range_some (by omega) hs hh]
        exact done (fu - 1) _ _ (by omega)
      | false =>
        rw [cond_false]
        refine ih (k + 1) (fu - 1) (by omega) (by omega) fun j hj => ?_
        by_cases e : j = k
        · rw [e]; exact hs
        · exact hh j (by omega)
  exact key l.length 0 n (by omega) (by omega) fun j hj => absurd hj (Nat.not_lt_zero _)
theorem spec_strikes {R : Type} {n : Nat} (kx2 : List Int → Option R) {l : List SCart} (hl : l.length ≤ 12) (hn : 1000000000 < n) : ∀ m fu w, WOk l w → posC w ≤ m → m + 2 < fu →
    loopN (fun (x : Bool × List Int) J' => spec_Round_L9 n kx2 (fun again73 wants74 => J' (again73, wants74)) l x.1 x.2) fu (true, w) = kx2 (runS l m w) := by
  have stop : ∀ fu w', 0 < fu → loopN (fun (x : Bool × List Int) J' => spec_Round_L9 n kx2 (fun again73 wants74 => J' (again73, wants74)) l x.1 x.2) fu (false, w') = kx2 w' := fun fu w' hfu => (loopN_step hfu _).trans rfl
  have hstep : ∀ (J : Bool → List Int → Option R) w, WOk l w → spec_Round_L9 n kx2 J l true w = match firstS l w with | some i => J true (w.set i (-1)) | none => J false w := by
    intro J w h
    unfold spec_Round_L9
    rw [cond_true, spec_search _ h hl hn]
  intro m
  induction m with
  | zero =>
    intro fu w h hp hfu
    refine (loopN_step (by omega) _).trans ((hstep _ w h).trans ?_)
    cases hs : firstS l w with
    | none => exact stop (fu - 1) w (by omega)
    | some i =>
      obtain ⟨h1, h2⟩ := firstS_some hs
      have := posC_set w i (by rw [h.len]; exact h1) h2
      omega
  | succ m ih =>
    intro fu w h hp hfu
    refine (loopN_step (by omega) _).trans ((hstep _ w h).trans ?_)
    unfold runS
    cases hs : firstS l w with
    | none => exact stop (fu - 1) w (by omega)
    | some i =>
      obtain ⟨h1, h2⟩ := firstS_some hs
      have := posC_set w i (by rw [h.len]; exact h1) h2
      exact ih (fu - 1) _ (h.strike i) (by omega) (by omega)
theorem impl_strikes {R : Type} {n : Nat} (kx2 : List Int → Option R) {l : List SCart} (hl : l.length ≤ 12) (hn : 1000000000 < n) : ∀ m fu w, WOk l w → posC w ≤ m → m + 2 < fu →
    loopN (fun (x : List Int) J' => impl_Round_L10 n kx2 J' l x) fu w = kx2 (runS l m w) := by
  have hstep : ∀ (J : List Int → Option R) w, WOk l w → impl_Round_L10 n kx2 J l w = match firstS l w with | some i => J (w.set i (-1)) | none => kx2 w := by
    intro J w h
    have hwl := h.len
    unfold impl_Round_L10
    rw [loop_find (p := struckB l w) (len := l.length) (yes := fun i => J (w.set i (-1))) (no := kx2 w) (by omega) (fun k J2 hk _ => ?_) (fun J2 _ => ?_) (by omega)]
    · rfl
    · unfold impl_Round_L11
      simp only [Int.ofNat_lt, hk, decide_true, cond_true, struck_impl h hl hk hn, Option.bind_some, decide_eq_false (show ¬ (k : Int) = (l.length : Int) by omega), cond_false, ix_nat (show k < w.length by omega), Int.toNat_natCast, chk_dec (show k < w.length by omega), bd_eq, w64_succ (show k < 9223372036854775807 by omega), bif_not]
    · unfold impl_Round_L11
      simp only [Int.lt_irrefl, decide_false, cond_false, decide_true, cond_true]
  intro m
  induction m with
  | zero =>
    intro fu w h hp hfu
    refine (loopN_step (by omega) _).trans ((hstep _ w h).trans ?_)
    cases hs : firstS l w with
    | none => rfl
    | some i =>
      obtain ⟨h1, h2⟩ := firstS_some hs
      have := posC_set w i (by rw [h.len]; exact h1) h2
      omega
  | succ m ih =>
    intro fu w h hp hfu
    refine (loopN_step (by omega) _).trans ((hstep _ w h).trans ?_)
    unfold runS
    cases hs : firstS l w with
    | none => rfl
    | some i =>
      obtain ⟨h1, h2⟩ := firstS_some hs
      have := posC_set w i (by rw [h.len]; exact h1) h2
      exact ih (fu - 1) _ (h.strike i) (by omega) (by omega)
/-! ### A round -/
def wants0 (f : SFloor) (l : List SCart) (k : Nat) : List Int := (List.range k).map fun i => wantB f (ct l i)
theorem wants0_len (f : SFloor) (l : List SCart) (k : Nat) : (wants0 f l k).length = k := by simp [wants0]
theorem wants0_get (f : SFloor) (l : List SCart) {k i : Nat} (h : i < k) : g0 (wants0 f l k) i = wantB f (ct l i) := by
  unfold g0
  rw [getD_eq (by rw [wants0_len]; exact h)]
  simp [wants0]
def goK (l : List SCart) (w : List Int) : Nat → List SCart × List Int
  | 0 => (l, [])
  | k + 1 => bif decide (g0 w k ≥ 0) then ((goK l w k).1.set k ⟨g0 w k, ((goK l w k).1.getD k dSCart).Goal⟩, (goK l w k).2 ++ [(k : Int)]) else goK l w k
theorem goK_len (l : List SCart) (w : List Int) : ∀ k, (goK l w k).1.length = l.length ∧ (goK l w k).2.length ≤ k
  | 0 => ⟨rfl, Nat.le_refl _⟩
  | k + 1 => by
    obtain ⟨h1, h2⟩ := goK_len l w k
    unfold goK
    cases decide (g0 w k ≥ 0) with
    | true => exact ⟨by rw [cond_true, List.length_set, h1], by rw [cond_true, List.length_append, List.length_singleton]; omega⟩
    | false => exact ⟨h1, by rw [cond_false]; omega⟩
def wantsE (f : SFloor) (l : List SCart) : List Int := runS l l.length (wants0 f l l.length)
def roundB (f : SFloor) (l : List SCart) : List SCart × List Int × Bool := bif cartsB f l then ((goK l (wantsE f l) l.length).1, (goK l (wantsE f l) l.length).2, true) else ([], [], false)
structure CsOk (f : SFloor) (l : List SCart) : Prop where
  fl : floorB f = true
  len : l.length ≤ 12
  each : ∀ i, i < l.length → CtOk f (ct l i)
theorem csOk {f : SFloor} {l : List SCart} (h : cartsB f l = true) : CsOk f l := by
  unfold cartsB at h
  rw [Bool.and_eq_true, Bool.and_eq_true] at h
  refine ⟨h.1, of_decide_eq_true h.2.1, fun i hi => ?_⟩
  have h1 := all_iffR.1 h.2.2 i hi
  unfold cartB at h1
  rw [Bool.and_eq_true, Bool.and_eq_true] at h1
  have h2 := of_decide_eq_true h1.1
  have h3 := of_decide_eq_true h1.2.1
  exact ⟨by omega, by omega⟩
theorem wOk0 {f : SFloor} {l : List SCart} (h : CsOk f l) : WOk l (wants0 f l l.length) := by
  refine ⟨wants0_len _ _ _, fun i hi => ?_⟩
  rw [wants0_get f l hi]
  exact (wantB_spec (flOk h.fl) (h.each i hi)).imp id fun x => x.1
theorem round_spec {n : Nat} (f : SFloor) (l : List SCart) (hf : f.Ways.length ≤ 1048576) (hl : l.length ≤ 1048576) (hn : 1000000000 < n) : spec_Round n f l = some (roundB f l) := by
  unfold spec_Round roundB
  rw [carts_spec f l hf hl hn, Option.bind_some]
  cases hc : cartsB f l with
  | false => rfl
  | true =>
    have hC := csOk hc
    have h12 := hC.len
    simp only [Bool.not_true, cond_false, cond_true]
    unfold spec_Round_k2
    refine loop_runS (S := List Int) (X := Int × List Int) (enc := fun k s => (k, s)) (len := l.length) (I := fun k s => s = wants0 f l k) (Q := fun r => r = some ((goK l (wantsE f l) l.length).1, (goK l (wantsE f l) l.length).2, true)) (fun k s J hk hi => ?_) (fun s J hi => ?_) (by omega) (s0 := []) rfl
    · refine ⟨wants0 f l (k + 1), rfl, ?_⟩
      have hs := wants0_len f l k
      show spec_Round_L5 n _ _ l (k : Int) f s = _
      unfold spec_Round_L5
      subst hi
      simp only [Int.ofNat_lt, hk, decide_true, cond_true, ix_nat hk, Int.toNat_natCast, bd_eq, want_spec hC.fl hf (hC.each k hk) hn, Option.bind_some, w64_succ (show k < 9223372036854775807 by omega)]
      rw [chk_dec (by rw [List.length_append, List.length_singleton]; omega)]
      unfold wants0
      rw [List.range_succ, List.map_append]
      rfl
    · have hW := wOk0 hC
      have hE : WOk l (wantsE f l) := runS_ok _ hW
      have hp := posC_le (wants0 f l l.length)
      rw [wants0_len] at hp
      show spec_Round_L5 n _ _ l (l.length : Int) f s = _
      unfold spec_Round_L5
      simp only [Int.lt_irrefl, decide_false, cond_false]
      rw [hi, spec_strikes _ h12 hn l.length n _ hW hp (by omega), chk_dec (by omega)]
      refine loop_runS (S := List SCart × List Int) (X := Int × List SCart × List Int) (enc := fun k s => (k, s.1, s.2)) (len := l.length) (I := fun k s => s = goK l (wantsE f l) k) (Q := fun r => r = some ((goK l (wantsE f l) l.length).1, (goK l (wantsE f l) l.length).2, true)) (fun k s J hk hi2 => ?_) (fun s J hi2 => ?_) (by omega) (s0 := (l, [])) rfl
      · refine ⟨_, rfl, ?_⟩
        obtain ⟨g1, g2⟩ := goK_len l (wantsE f l) k
        have hel := hE.len
        show spec_Round_L20 n _ _ l (k : Int) (wantsE f l) s.1 s.2 = _
        unfold spec_Round_L20 spec_Round_k1 goK
        subst hi2
        simp only [Int.ofNat_lt, hk, decide_true, cond_true, ix_nat (show k < (wantsE f l).length by omega), chk_dec (show k < (wantsE f l).length by omega), ix_nat (show k < (goK l (wantsE f l) k).1.length by omega), chk_dec (show k < (goK l (wantsE f l) k).1.length by omega), Int.toNat_natCast, bd_eq, w64_succ (show k < 9223372036854775807 by omega), chk_dec (show ((goK l (wantsE f l) k).2 ++ [(k : Int)]).length * 8 ≤ 140737488355328 by rw [List.length_append, List.length_singleton]; omega)]
        cases decide (g0 (wantsE f l) k ≥ 0) <;> rfl
      · subst hi2
        show spec_Round_L20 n _ _ l (l.length : Int) (wantsE f l) _ _ = _
        unfold spec_Round_L20
        simp only [Int.lt_irrefl, decide_false, cond_false]
theorem own_int {n : Nat} (l : List Int) (h : l.length ≤ 1048576) : impl_own_int n l = some l := by
  unfold impl_own_int
  rw [chk_dec (by omega), chk_dec (by omega), chk_dec (by omega)]
theorem own_cart {n : Nat} (l : List SCart) (h : l.length ≤ 1048576) : impl_own_impl_Cart n l = some l := by
  unfold impl_own_impl_Cart
  rw [chk_dec (by omega), chk_dec (by omega), chk_dec (by omega)]
theorem round_impl {n : Nat} (f : SFloor) (l : List SCart) (hf : f.Ways.length ≤ 1048576) (hl : l.length ≤ 1048576) (hn : 1000000000 < n) : impl_Round n f l = some (roundB f l) := by
  unfold impl_Round roundB
  rw [carts_impl f l hf hl hn, Option.bind_some]
  cases hc : cartsB f l with
  | false => rfl
  | true =>
    have hC := csOk hc
    have h12 := hC.len
    simp only [Bool.not_true, cond_false, cond_true]
    unfold impl_Round_k1
    rw [chk_dec (by omega), chk_dec (by omega), chk_dec (by omega), Int.toNat_natCast]
    have hW0 := wants0_len f l l.length
    refine loop_runS (S := List Int) (X := Int × List Int) (enc := fun k s => (k, s)) (len := l.length) (I := fun k s => s = (wants0 f l l.length).take k ++ (List.replicate l.length 0).drop k) (Q := fun r => r = some ((goK l (wantsE f l) l.length).1, (goK l (wantsE f l) l.length).2, true)) (fun k s J hk hi => ?_) (fun s J hi => ?_) (by omega) (s0 := _) (by simp)
    · refine ⟨_, rfl, ?_⟩
      have hsl : s.length = l.length := by rw [hi, List.length_append, List.length_take, List.length_drop, List.length_replicate]; omega
      show impl_Round_L5 n _ _ l (l.length : Int) (k : Int) f l s = _
      unfold impl_Round_L5
      simp only [Int.ofNat_lt, hk, decide_true, cond_true, ix_nat hk, Int.toNat_natCast, bd_eq, want_impl hC.fl hf (hC.each k hk) hn, Option.bind_some, ix_nat (show k < s.length by omega), chk_dec (show k < s.length by omega), w64_succ (show k < 9223372036854775807 by omega)]
      rw [hi, take_drop_set (d := (0 : Int)) (by omega) (by omega) (wants0_get f l hk).symm]
    · have hW := wOk0 hC
      have hE : WOk l (wantsE f l) := runS_ok _ hW
      have hp := posC_le (wants0 f l l.length)
      rw [wants0_len] at hp
      have hs : s = wants0 f l l.length := by
        rw [hi, List.take_of_length_le (by omega), List.drop_eq_nil_of_le (by rw [List.length_replicate]; omega), List.append_nil]
      show impl_Round_L5 n _ _ l (l.length : Int) (l.length : Int) f l s = _
      unfold impl_Round_L5
      simp only [Int.lt_irrefl, decide_false, cond_false]
      rw [hs, impl_strikes _ h12 hn l.length n _ hW hp (by omega), own_cart l hl, Option.bind_some]
      have hel : (wantsE f l).length = l.length := hE.len
      show loopN (fun (x : Int × List SCart × List Int) J' => impl_Round_L18 n _ _ ((wantsE f l).length : Int) x.1 x.2.1 x.2.2 (wantsE f l)) n _ = _
      rw [hel]
      refine loop_runS (S := List SCart × List Int) (X := Int × List SCart × List Int) (enc := fun k s => (k, s.1, s.2)) (len := l.length) (I := fun k s => s = goK l (wantsE f l) k) (Q := fun r => r = some ((goK l (wantsE f l) l.length).1, (goK l (wantsE f l) l.length).2, true)) (fun k s J hk hi2 => ?_) (fun s J hi2 => ?_) (by omega) (s0 := (l, [])) rfl
      · refine ⟨_, rfl, ?_⟩
        obtain ⟨g1, g2⟩ := goK_len l (wantsE f l) k
        show impl_Round_L18 n _ _ (l.length : Int) (k : Int) s.1 s.2 (wantsE f l) = _
        unfold impl_Round_L18 impl_Round_k0 goK
        subst hi2
        simp only [Int.ofNat_lt, hk, decide_true, cond_true, ix_nat (show k < (wantsE f l).length by omega), chk_dec (show k < (wantsE f l).length by omega), ix_nat (show k < (goK l (wantsE f l) k).1.length by omega), chk_dec (show k < (goK l (wantsE f l) k).1.length by omega), Int.toNat_natCast, bd_eq, w64_succ (show k < 9223372036854775807 by omega), chk_dec (show ((goK l (wantsE f l) k).2 ++ [(k : Int)]).length * 8 ≤ 140737488355328 by rw [List.length_append, List.length_singleton]; omega)]
        cases decide (g0 (wantsE f l) k ≥ 0) <;> rfl
      · subst hi2
        obtain ⟨g1, g2⟩ := goK_len l (wantsE f l) l.length
        show impl_Round_L18 n _ _ (l.length : Int) (l.length : Int) _ _ (wantsE f l) = _
        unfold impl_Round_L18
        simp only [Int.lt_irrefl, decide_false, cond_false]
        rw [own_int _ (by omega), Option.bind_some]
end Go.Sm
end

section
set_option linter.unusedSimpArgs false
set_option linter.deprecated false
set_option linter.unusedSectionVars false
set_option linter.unusedVariables false
set_option linter.unusedSimpArgs false
namespace Go.Sm
attribute [local irreducible] bd chk ix loopN
/-! ### Who is some hops away has a place nearer to go to -/
def near (f : SFloor) (c : List Int) : Prop := ∀ p, p < f.Ways.length → 0 < g0 c p → ∃ j, j < 4 ∧ 0 ≤ nextB f p j ∧ 0 ≤ g0 c (nextB f p j).toNat ∧ g0 c (nextB f p j).toNat < g0 c p
theorem near_step {f : SFloor} {d : Int} {c : List Int} {p : Nat} (hd : 0 ≤ d) (hl : c.length = f.Ways.length) (h : near f c) : near f (stepP f d c p) := by
  intro q hq hg
  cases hc : chgP f d c p with
  | false =>
    have e : stepP f d c p = c := by unfold stepP; rw [hc]; rfl
    rw [e] at hg ⊢
    exact h q hq hg
  | true =>
    have e : stepP f d c p = c.set p (d + 1) := by unfold stepP; rw [hc]; rfl
    have hc2 := hc
    unfold chgP at hc2
    rw [Bool.and_eq_true] at hc2
    have hneg := of_decide_eq_true hc2.1
    by_cases hpq : p = q
    · subst hpq
      obtain ⟨j, hj, hh⟩ := List.any_eq_true.1 hc2.2
      unfold hitP at hh
      rw [Bool.and_eq_true] at hh
      have h1 := of_decide_eq_true hh.1
      have h2 := of_decide_eq_true hh.2
      have h3 : g0 (stepP f d c p) (nextB f p j).toNat = d := by rw [keep_step (by omega), h2]
      refine ⟨j, List.mem_range.1 hj, h1, by omega, ?_⟩
      rw [h3, e, set_get, if_pos ⟨rfl, by omega⟩]
      omega
    · have hgq : g0 (stepP f d c p) q = g0 c q := by rw [e, set_get, if_neg (fun x => hpq x.1)]
      rw [hgq] at hg ⊢
      obtain ⟨j, h1, h2, h3, h4⟩ := h q hq hg
      exact ⟨j, h1, h2, by rw [keep_step h3]; exact h3, by rw [keep_step h3]; exact h4⟩
theorem near_run {f : SFloor} {d : Int} {c : List Int} (hd : 0 ≤ d) (hl : c.length = f.Ways.length) (h : near f c) : ∀ k, near f (runP f d k c).2
  | 0 => h
  | k + 1 => near_step hd (by rw [runP_len]; exact hl) (near_run hd hl h k)
theorem near_lvK {f : SFloor} {c0 : List Int} (hl : c0.length = f.Ways.length) (h : near f c0) : ∀ k, near f (lvK f c0 k)
  | 0 => h
  | k + 1 => near_run (by omega) (by rw [lvK_len]; exact hl) (near_lvK hl h k) _
theorem hops_near {f : SFloor} {goal : Int} (h0 : 0 ≤ goal) (h1 : goal < (f.Ways.length : Int)) : near f (hopsL f goal) := by
  unfold hopsL
  refine near_lvK start_len (fun p hp hg => ?_) _
  rw [start_get h0 h1] at hg
  split at hg
  · omega
  · omega
theorem firstQ_pos {f : SFloor} (hO : FlOk f) {h : List Int} (hn : near f h) {p : Nat} (hp : p < f.Ways.length) (hg : 0 < g0 h p) : 0 ≤ firstQ f h p := by
  obtain ⟨j, h1, h2, h3, h4⟩ := hn p hp hg
  unfold firstQ
  cases hf : (leadK f p 4).find? (lessQ h p) with
  | none =>
    exfalso
    rw [List.find?_eq_none] at hf
    refine hf (nextB f p j) ?_ ?_
    · unfold leadK
      exact List.mem_filter.2 ⟨List.mem_map.2 ⟨j, List.mem_range.2 h1, rfl⟩, decide_eq_true h2⟩
    · unfold lessQ
      rw [decide_eq_true (show g0 h (nextB f p j).toNat ≥ 0 by omega), decide_eq_true h4]
      rfl
  | some q =>
    have h5 := List.mem_of_find?_eq_some hf
    unfold leadK at h5
    exact of_decide_eq_true (List.mem_filter.1 h5).2
def awayB (f : SFloor) (c : SCart) : Bool := !decide (c.Goal < 0) && decide (0 < g0 (hopsL f c.Goal) c.At.toNat)
theorem want_away {f : SFloor} (hO : FlOk f) {c : SCart} (hc : CtOk f c) : decide (wantB f c ≥ 0) = awayB f c := by
  have h1 := hc.at_
  have h2 := hc.goal
  unfold wantB awayB
  by_cases cg : c.Goal < 0
  · rw [decide_eq_true cg]; rfl
  · rw [decide_eq_false cg, cond_false]
    by_cases cz : g0 (hopsL f c.Goal) c.At.toNat ≤ 0
    · rw [decide_eq_true cz, decide_eq_false (show ¬ 0 < g0 (hopsL f c.Goal) c.At.toNat by omega)]; rfl
    · rw [decide_eq_false cz, cond_false, decide_eq_true (show 0 < g0 (hopsL f c.Goal) c.At.toNat by omega)]
      have := firstQ_pos hO (hops_near (f := f) (goal := c.Goal) (by omega) (by omega)) (p := c.At.toNat) (by omega) (by omega)
      rw [decide_eq_true (show firstQ f (hopsL f c.Goal) c.At.toNat ≥ 0 by omega)]
      rfl
def hasB (l : List Int) (x : Int) : Bool := (List.range l.length).any fun k => decide (l.getD k 0 = x)
theorem has_spec {n : Nat} (l : List Int) (x : Int) (hl : l.length ≤ 1048576) (hn : 1000000000 < n) : spec_l9Has n l x = some (hasB l x) := by
  unfold spec_l9Has hasB
  rw [loop_any (p := fun k => decide (l.getD k 0 = x)) (len := l.length) (yes := some true) (no := some false) (by omega) (fun k J h => ?_) (fun J => ?_) (by omega)]
  · rw [bif_tf]
  · unfold spec_l9Has_L2
    simp only [Int.ofNat_lt, h, decide_true, cond_true, ix_nat h, Int.toNat_natCast, w64_succ (show k < 9223372036854775807 by omega)]
  · unfold spec_l9Has_L2
    simp only [Int.lt_irrefl, decide_false, cond_false]
theorem contains_impl {n : Nat} (l : List Int) (x : Int) (hl : l.length ≤ 1048576) (hn : 1000000000 < n) : slices_Contains_int_int n l x = some (hasB l x) := by
  unfold slices_Contains_int_int slices_Index_int_int hasB
  rw [loop_idx (p := fun k => decide (l.getD k 0 = x)) (len := l.length) (by omega) (fun k J h _ => ?_) (fun J _ => ?_) (by omega)]
  · rw [Option.bind_some, idxOf_ge]
  · unfold slices_Index_int_int_L2
    simp only [Int.ofNat_lt, h, decide_true, cond_true, ix_nat h, Int.toNat_natCast, w64_succ (show k < 9223372036854775807 by omega)]
    rw [show decide (x = l.getD k 0) = decide (l.getD k 0 = x) from by simp only [decide_eq_decide]; exact ⟨Eq.symm, Eq.symm⟩]
  · unfold slices_Index_int_int_L2
    simp only [Int.lt_irrefl, decide_false, cond_false]
def stuckAt (f : SFloor) (l : List SCart) (mv : List Int) (i : Nat) : Bool := awayB f (ct l i) && !hasB mv (i : Int)
def stuckK (f : SFloor) (l : List SCart) (mv : List Int) (k : Nat) : List Int := ((List.range k).filter (stuckAt f l mv)).map fun (j : Nat) => (j : Int)
theorem stuckK_succ (f : SFloor) (l : List SCart) (mv : List Int) (k : Nat) : stuckK f l mv (k + 1) = bif stuckAt f l mv k then stuckK f l mv k ++ [(k : Int)] else stuckK f l mv k := by
  unfold stuckK
  rw [List.range_succ, List.filter_append, List.map_append]
  cases h : stuckAt f l mv k with
  | true => simp [h]
  | false => simp [h]
theorem stuckK_len (f : SFloor) (l : List SCart) (mv : List Int) (k : Nat) : (stuckK f l mv k).length ≤ k := by
  unfold stuckK
  rw [List.length_map]
  have := List.length_filter_le (stuckAt f l mv) (List.range k)
  rw [List.length_range] at this
  exact this
def stuckB (f : SFloor) (l : List SCart) : List Int × Bool := bif cartsB f l then (stuckK f l (roundB f l).2.1 l.length, true) else ([], false)
theorem round_sz2 (f : SFloor) (l : List SCart) (hl : l.length ≤ 1048576) : (roundB f l).2.1.length ≤ 1048576 := by
  unfold roundB
  cases cartsB f l with
  | false => exact Nat.zero_le _
  | true =>
    obtain ⟨g1, g2⟩ := goK_len l (wantsE f l) l.length
    show (goK l (wantsE f l) l.length).2.length ≤ _
    omega
theorem round_ok (f : SFloor) (l : List SCart) : (roundB f l).2.2 = cartsB f l := by
  unfold roundB
  cases cartsB f l <;> rfl
theorem stuck_spec {n : Nat} (f : SFloor) (l : List SCart) (hf : f.Ways.length ≤ 1048576) (hl : l.length ≤ 1048576) (hn : 1000000000 < n) : spec_Stuck n f l = some (stuckB f l) := by
  unfold spec_Stuck stuckB
  rw [round_spec f l hf hl hn, Option.bind_some, round_ok]
  have hm := round_sz2 f l hl
  cases hc : cartsB f l with
  | false =>
    refine (loopN_step (by omega) _).trans ?_
    show spec_Stuck_L4 n _ _ l false 0 f _ [] = _
    unfold spec_Stuck_L4
    cases decide ((0 : Int) < (l.length : Int)) <;> rfl
  | true =>
    have hC := csOk hc
    rw [cond_true]
    refine loop_runS (S := List Int) (X := Int × List Int) (enc := fun k s => (k, s)) (len := l.length) (I := fun k s => s = stuckK f l (roundB f l).2.1 k) (Q := fun r => r = some (stuckK f l (roundB f l).2.1 l.length, true)) (fun k s J hk hi => ?_) (fun s J hi => ?_) (by omega) (s0 := []) rfl
    · refine ⟨_, rfl, ?_⟩
      have hs := stuckK_len f l (roundB f l).2.1 k
      show spec_Stuck_L4 n _ _ l true (k : Int) f _ s = _
      unfold spec_Stuck_L4 spec_Stuck_k0
      subst hi
      simp only [Int.ofNat_lt, hk, decide_true, cond_true, has_spec _ _ hm hn, Option.bind_some, ix_nat hk, Int.toNat_natCast, bd_eq, want_spec hC.fl hf (hC.each k hk) hn, want_away (flOk hC.fl) (hC.each k hk), w64_succ (show k < 9223372036854775807 by omega)]
      rw [stuckK_succ, chk_dec (by rw [List.length_append, List.length_singleton]; omega)]
      unfold stuckAt
      cases hasB (roundB f l).2.1 (k : Int) <;> cases awayB f (ct l k) <;> rfl
    · show spec_Stuck_L4 n _ _ l true (l.length : Int) f _ s = _
      unfold spec_Stuck_L4
      simp only [Int.lt_irrefl, decide_false, cond_false]
      rw [hi]
theorem stuck_impl {n : Nat} (f : SFloor) (l : List SCart) (hf : f.Ways.length ≤ 1048576) (hl : l.length ≤ 1048576) (hn : 1000000000 < n) : impl_Stuck n f l = some (stuckB f l) := by
  unfold impl_Stuck stuckB
  rw [round_impl f l hf hl hn, Option.bind_some, round_ok]
  have hm := round_sz2 f l hl
  cases hc : cartsB f l with
  | false => rfl
  | true =>
    have hC := csOk hc
    rw [Bool.not_true, cond_false, cond_true]
    refine loop_runS (S := List Int) (X := Int × List Int) (enc := fun k s => (k, s)) (len := l.length) (I := fun k s => s = stuckK f l (roundB f l).2.1 k) (Q := fun r => r = some (stuckK f l (roundB f l).2.1 l.length, true)) (fun k s J hk hi => ?_) (fun s J hi => ?_) (by omega) (s0 := []) rfl
    · refine ⟨_, rfl, ?_⟩
      have hs := stuckK_len f l (roundB f l).2.1 k
      have hck := hC.each k hk
      have h1 : 0 ≤ (l.getD k dSCart).At ∧ (l.getD k dSCart).At < (f.Ways.length : Int) := hck.at_
      have h2 := hck.goal
      show impl_Stuck_L6 n _ _ l (l.length : Int) (k : Int) f _ s = _
      unfold impl_Stuck_L6 impl_Stuck_k0
      subst hi
      simp only [Int.ofNat_lt, hk, decide_true, cond_true, ix_nat hk, Int.toNat_natCast, bd_eq, hops_impl f _ hf hn, Option.bind_some, contains_impl _ _ hm hn, w64_succ (show k < 9223372036854775807 by omega)]
      rw [stuckK_succ]
      unfold stuckAt awayB
      by_cases cg : (ct l k).Goal < 0
      · have hh : hopsB f (ct l k).Goal = ([], false) := by
          unfold hopsB
          rw [show placeB f (ct l k).Goal = false from decide_eq_false (by omega), Bool.and_false]
          rfl
        rw [hh, decide_eq_true cg]
        rfl
      · have hh : hopsB f (ct l k).Goal = (hopsL f (ct l k).Goal, true) := by
          unfold hopsB
          rw [hC.fl, show placeB f (ct l k).Goal = true from decide_eq_true (by omega)]
          rfl
        have hlen := hopsL_len f (ct l k).Goal
        rw [hh, decide_eq_false cg]
        dsimp only
        rw [cond_true, ix_of h1.1 (by omega), chk_dec (by omega), chk_dec (by rw [List.length_append, List.length_singleton]; omega)]
        show (bif decide (0 < g0 (hopsL f (ct l k).Goal) (ct l k).At.toNat) then _ else _) = _
        cases decide (0 < g0 (hopsL f (ct l k).Goal) (ct l k).At.toNat) <;> cases hasB (roundB f l).2.1 (k : Int) <;> rfl
    · have hs := stuckK_len f l (roundB f l).2.1 l.length
      show impl_Stuck_L6 n _ _ l (l.length : Int) (l.length : Int) f _ s = _
      unfold impl_Stuck_L6
      simp only [Int.lt_irrefl, decide_false, cond_false]
      rw [hi, own_int _ (by omega), Option.bind_some]
theorem stuck_sz (f : SFloor) (l : List SCart) (hl : l.length ≤ 1048576) : (stuckB f l).1.length ≤ 1048576 := by
  unfold stuckB
  cases cartsB f l with
  | false => exact Nat.zero_le _
  | true =>
    have := stuckK_len f l (roundB f l).2.1 l.length
    show (stuckK f l (roundB f l).2.1 l.length).length ≤ _
    omega
theorem laws_FnExactStuck_true (aF0 : SFloor) (aCarts1 : List SCart) (h0 : wfSFloor aF0) (h1 : (aCarts1.length ≤ 9223372036854775807 ∧ ∀ y ∈ aCarts1, wfSCart y)) : ∃ n, laws_FnExactStuck n aF0 aCarts1 = some true := by
  refine ⟨1000000001, ?_⟩
  generalize hN : (1000000001 : Nat) = n
  have hn : 1000000000 < n := by omega
  unfold laws_FnExactStuck
  rw [laws_szFloor_ok (n := n) aF0 (left := 1048576) h0 (by omega) (by omega) hn, Option.bind_some]
  refine guard_sz fun hw => ?_
  rw [if_pos (by omega), laws_szCartS_ok (n := n) aCarts1 (left := 1048576 - (w_SFloor aF0 : Int)) h1 (by omega) (by omega) hn, Option.bind_some]
  by_cases hw2 : (w_LSCart aCarts1 : Int) ≤ 1048576 - (w_SFloor aF0 : Int)
  · rw [if_pos hw2, decide_eq_false (by omega), cond_false]
    have w1 : w_SFloor aF0 = aF0.Ways.length := rfl
    have w2 : w_LSCart aCarts1 = aCarts1.length := rfl
    have c1 := stuck_sz aF0 aCarts1 (by omega)
    have hS := stuck_spec (n := n) aF0 aCarts1 (by omega) (by omega) hn
    have hI := stuck_impl (n := n) aF0 aCarts1 (by omega) (by omega) hn
    generalize stuckB aF0 aCarts1 = R at *
    obtain ⟨R1, R2⟩ := R
    dsimp only at c1
    have n1 := n_LInt_le aF0.Ways
    have n2 := n_LSCart_le aCarts1
    have n3 := n_LInt_le R1
    have w3 : w_LInt R1 = R1.length := rfl
    have w5 : w_LInt aF0.Ways = aF0.Ways.length := rfl
    obtain ⟨u1, m1⟩ := laws_markFloor_ok (n := n) aF0 1 (by omega) (by omega) (by omega) hn
    obtain ⟨u2, m2⟩ := laws_markCartS_ok (n := n) aCarts1 (1 + ((n_LInt aF0.Ways : Nat) : Int)) (by omega) (by omega) (by omega) hn
    obtain ⟨v1, p1, p2⟩ := laws_markIntS_ok (n := n) R1 1 (by omega) (by omega) (by omega) hn
    have d1 : decide (1 + ((n_LInt aF0.Ways : Nat) : Int) + ((n_LSCart aCarts1 : Nat) : Int) < 0) = false := decide_eq_false (by omega)
    have d2 : decide (1 + ((n_LInt R1 : Nat) : Int) < 0) = false := decide_eq_false (by omega)
    unfold laws_FnExactStuck_k4 laws_FnExactStuck_k3 laws_FnExactStuck_k2 laws_FnExactStuck_k1 laws_FnExactStuck_k0
    simp only [laws_toFloor_ok aF0 (show _ ≤ 100000000 by omega) hn, laws_toCartS_ok aCarts1 (show _ ≤ 100000000 by omega) hn, hS, hI, Option.bind_some, laws_eqFloor_ok aF0 (show _ ≤ 100000000 by omega) hn, laws_eqCartS_ok aCarts1 (show _ ≤ 100000000 by omega) hn, laws_eqIntS_ok R1 (show _ ≤ 100000000 by omega) hn,
      m1, m2, p1, p2, d1, d2, decide_true, beq_self_eq_true, Bool.not_true, cond_false, cond_true]
  · rw [if_neg hw2]; rfl
end Go.Sm
end
