import Derived.Test.YtakllmgiobpmgaaEngE
import Derived.Test.YtakllmgiobpmgaaEngA
/- The functions as plain functions over data, and that the law answers true for all arguments. Travel: of all legs, ports, minutes and changes the written-out way and the built one tell the same way. -/
set_option linter.unusedSimpArgs false
set_option linter.deprecated false
set_option linter.unusedSectionVars false
set_option linter.unusedVariables false
noncomputable section
namespace Go.Sm
structure SLeg where
  Service : Int
  From : Int
  To : Int
  Leaves : Int
  Comes : Int
  Room : Int
def dSLeg : SLeg := ⟨(0 : Int), (0 : Int), (0 : Int), (0 : Int), (0 : Int), (0 : Int)⟩
def laws_szLegS (n : Nat) (a0 : List SLeg) (left1 : Int) : Option Int :=
  (bd (w64 (left1 - (a0.length : Int))) fun (v1 : Int) => (bif (decide (v1 < (0 : Int))) then some ((-1 : Int)) else some (v1)))
def laws_toLeg (n : Nat) (a0 : SLeg) : Option SLeg :=
  some (a0)
def laws_toLegS_L3 {R : Type} (n : Nat) (kx0 : List SLeg → Option R) (J : Int → List SLeg → Option R) (a1 : List SLeg) (i2 : Int) (out3 : List SLeg) : Option R :=
  (bif (decide (i2 < (a1.length : Int))) then ix i2 a1.length ((bd (a1.getD i2.toNat dSLeg) fun (e8 : SLeg) => (laws_toLeg n e8).bind fun r9 => ix i2 out3.length (chk (decide (i2.toNat < out3.length)) (J (w64 (i2 + (1 : Int))) (out3.set i2.toNat r9))))) else kx0 out3)
def laws_toLegS (n : Nat) (a0 : List SLeg) : Option (List SLeg) :=
  chk (decide ((0 : Int) ≤ (a0.length : Int))) (chk (decide ((a0.length : Int) ≤ (a0.length : Int))) (chk (decide ((a0.length : Int) ≤ 9223372036854775807 ∧ (a0.length : Int) * (48 : Int) ≤ 281474976710656)) (loopN (fun (x : Int × List SLeg) J' => laws_toLegS_L3 n (fun out10 => some (out10)) (fun i11 out12 => J' (i11, out12)) a0 x.1 x.2) n ((0 : Int), (List.replicate (a0.length : Int).toNat dSLeg)))))
def spec_l1In (n : Nat) (x0 : Int) (a1 : Int) (b2 : Int) : Option Bool :=
  (bif (decide (x0 ≥ a1)) then some ((decide (x0 ≤ b2))) else some (false))
def spec_l1Minute (n : Nat) (x0 : Int) : Option Bool :=
  (spec_l1In n x0 (0 : Int) (100000000 : Int)).bind fun r1 => some (r1)
def spec_LegsOk_k0 {R : Type} (n : Nat) (kx2 : Option R) (kxr : Bool → Option R) (J : Int → Option R) (legs30 : List SLeg) (i31 : Int) (k34 : Int) (x33 : SLeg) : Option R :=
  ix k34 legs30.length ((bd (legs30.getD k34.toNat dSLeg) fun (e35 : SLeg) => (bif (decide (e35.Service = x33.Service)) then ix k34 legs30.length ((bd (legs30.getD k34.toNat dSLeg) fun (e36 : SLeg) => (bif (!(decide (e36.To = x33.From))) then kxr false else ix k34 legs30.length ((bd (legs30.getD k34.toNat dSLeg) fun (e37 : SLeg) => (bif (decide (e37.Comes > x33.Leaves)) then kxr false else kx2)))))) else J (w64 (k34 - (1 : Int))))))
def spec_LegsOk_L8 {R : Type} (n : Nat) (kx2 : Option R) (kxr : Bool → Option R) (J : Int → Option R) (legs30 : List SLeg) (i31 : Int) (k32 : Int) (x33 : SLeg) : Option R :=
  (bif (decide (k32 ≥ (0 : Int))) then spec_LegsOk_k0 n kx2 kxr J legs30 i31 k32 x33 else kx2)
def spec_LegsOk_k1 {R : Type} (n : Nat) (kx0 : Option R) (kxr : Bool → Option R) (J : Int → Option R) (legs1 : List SLeg) (i3 : Int) : Option R :=
  ix i3 legs1.length ((bd (legs1.getD i3.toNat dSLeg) fun (e4 : SLeg) => (spec_l1In n e4.Service (1 : Int) (100 : Int)).bind fun r5 => (bif (!r5) then kxr false else (spec_l1In n e4.From (0 : Int) (19 : Int)).bind fun r8 => (bif (!r8) then kxr false else (spec_l1In n e4.To (0 : Int) (19 : Int)).bind fun r11 => (bif (!r11) then kxr false else (bif (decide (e4.From = e4.To)) then kxr false else (spec_l1Minute n e4.Leaves).bind fun r16 => (bif (!r16) then kxr false else (spec_l1Minute n e4.Comes).bind fun r19 => (bif (!r19) then kxr false else (bif (decide (e4.Leaves ≥ e4.Comes)) then kxr false else (spec_l1In n e4.Room (0 : Int) (1000000 : Int)).bind fun r24 => (bif (!r24) then kxr false else loopN (fun (x : Int) J' => spec_LegsOk_L8 n (J (w64 (i3 + (1 : Int)))) (fun t49 => kxr t49) J' legs1 i3 x e4) n ((w64 (i3 - (1 : Int))))))))))))))
def spec_LegsOk_L2 {R : Type} (n : Nat) (kx0 : Option R) (kxr : Bool → Option R) (J : Int → Option R) (legs1 : List SLeg) (i2 : Int) : Option R :=
  (bif (decide (i2 < (legs1.length : Int))) then spec_LegsOk_k1 n kx0 kxr J legs1 i2 else kx0)
def spec_LegsOk (n : Nat) (legs0 : List SLeg) : Option Bool :=
  loopN (fun (x : Int) J' => spec_LegsOk_L2 n (some ((decide ((legs0.length : Int) ≤ (60 : Int))))) (fun t51 => some (t51)) J' legs0 x) n ((0 : Int))
def spec_l22May (n : Nat) (x0 : SLeg) (at1 : Int) (service2 : Int) (change3 : Int) : Option Bool :=
  (bif (!(decide (service2 = (0 : Int)))) then (bif (!(decide (service2 = x0.Service))) then some ((decide ((w64 (at1 + change3)) ≤ x0.Leaves))) else some ((decide (at1 ≤ x0.Leaves)))) else some ((decide (at1 ≤ x0.Leaves))))
def spec_l22Reach_k0 {R : Type} (n : Nat) (kx4 : Bool → Option R) (J : Bool → Int → Option R) (legs31 : List SLeg) (from32 : Int) (at33 : Int) (change34 : Int) (again35 : Bool) (i36 : Int) (k43 : Int) (can39 : List Bool) : Option R :=
  ix k43 can39.length (chk (decide (k43.toNat < can39.length)) ((bif (can39.getD k43.toNat false) then ix k43 legs31.length ((bd (legs31.getD k43.toNat dSLeg) fun (e44 : SLeg) => ix i36 legs31.length ((bd (legs31.getD i36.toNat dSLeg) fun (e45 : SLeg) => (bif (decide (e44.To = e45.From)) then ix i36 legs31.length ((bd (legs31.getD i36.toNat dSLeg) fun (e46 : SLeg) => ix k43 legs31.length ((bd (legs31.getD k43.toNat dSLeg) fun (e47 : SLeg) => ix k43 legs31.length ((bd (legs31.getD k43.toNat dSLeg) fun (e48 : SLeg) => (spec_l22May n e46 e47.Comes e48.Service change34).bind fun r49 => J r49 (w64 (k43 + (1 : Int))))))))) else J false (w64 (k43 + (1 : Int)))))))) else J false (w64 (k43 + (1 : Int))))))
def spec_l22Reach_L11 {R : Type} (n : Nat) (kx4 : Bool → Option R) (J : Bool → Int → Option R) (legs31 : List SLeg) (from32 : Int) (at33 : Int) (change34 : Int) (again35 : Bool) (i36 : Int) (ok37 : Bool) (k38 : Int) (can39 : List Bool) : Option R :=
  (bif (decide (k38 < (legs31.length : Int))) then (bif (!ok37) then spec_l22Reach_k0 n kx4 J legs31 from32 at33 change34 again35 i36 k38 can39 else kx4 ok37) else kx4 ok37)
def spec_l22Reach_k1 {R : Type} (n : Nat) (kx2 : Bool → List Bool → Option R) (J : Bool → Int → List Bool → Option R) (legs8 : List SLeg) (from9 : Int) (at10 : Int) (change11 : Int) (again27 : Bool) (i28 : Int) (ok29 : Bool) (can30 : List Bool) : Option R :=
  loopN (fun (x : Bool × Int) J' => spec_l22Reach_L11 n (fun ok57 => (bif ok57 then ix i28 can30.length (chk (decide (i28.toNat < can30.length)) (J true (w64 (i28 + (1 : Int))) (can30.set i28.toNat true))) else J again27 (w64 (i28 + (1 : Int))) can30)) (fun ok63 k64 => J' (ok63, k64)) legs8 from9 at10 change11 again27 i28 x.1 x.2 can30) n (ok29, (0 : Int))
def spec_l22Reach_k2 {R : Type} (n : Nat) (kx2 : Bool → List Bool → Option R) (J : Bool → Int → List Bool → Option R) (legs8 : List SLeg) (from9 : Int) (at10 : Int) (change11 : Int) (again65 : Bool) (i66 : Int) (can67 : List Bool) : Option R :=
  loopN (fun (x : Bool × Int) J' => spec_l22Reach_L11 n (fun ok68 => (bif ok68 then ix i66 can67.length (chk (decide (i66.toNat < can67.length)) (J true (w64 (i66 + (1 : Int))) (can67.set i66.toNat true))) else J again65 (w64 (i66 + (1 : Int))) can67)) (fun ok74 k75 => J' (ok74, k75)) legs8 from9 at10 change11 again65 i66 x.1 x.2 can67) n (false, (0 : Int))
def spec_l22Reach_k3 {R : Type} (n : Nat) (kx2 : Bool → List Bool → Option R) (J : Bool → Int → List Bool → Option R) (legs8 : List SLeg) (from9 : Int) (at10 : Int) (change11 : Int) (again21 : Bool) (i22 : Int) (can23 : List Bool) : Option R :=
  ix i22 legs8.length ((bd (legs8.getD i22.toNat dSLeg) fun (e24 : SLeg) => (bif (decide (e24.From = from9)) then ix i22 legs8.length ((bd (legs8.getD i22.toNat dSLeg) fun (e25 : SLeg) => (spec_l22May n e25 at10 (0 : Int) change11).bind fun r26 => spec_l22Reach_k1 n kx2 J legs8 from9 at10 change11 again21 i22 r26 can23)) else spec_l22Reach_k2 n kx2 J legs8 from9 at10 change11 again21 i22 can23)))
def spec_l22Reach_L6 {R : Type} (n : Nat) (kx2 : Bool → List Bool → Option R) (J : Bool → Int → List Bool → Option R) (legs8 : List SLeg) (from9 : Int) (at10 : Int) (change11 : Int) (again12 : Bool) (i13 : Int) (can14 : List Bool) : Option R :=
  (bif (decide (i13 < (legs8.length : Int))) then ix i13 can14.length (chk (decide (i13.toNat < can14.length)) ((bif (can14.getD i13.toNat false) then J again12 (w64 (i13 + (1 : Int))) can14 else spec_l22Reach_k3 n kx2 J legs8 from9 at10 change11 again12 i13 can14))) else kx2 again12 can14)
def spec_l22Reach_L3 {R : Type} (n : Nat) (kx0 : List Bool → Option R) (J : Bool → List Bool → Option R) (legs1 : List SLeg) (from2 : Int) (at3 : Int) (change4 : Int) (again5 : Bool) (can6 : List Bool) : Option R :=
  (bif again5 then loopN (fun (x : Bool × Int × List Bool) J' => spec_l22Reach_L6 n (fun again87 can88 => J again87 can88) (fun again89 i90 can91 => J' (again89, i90, can91)) legs1 from2 at3 change4 x.1 x.2.1 x.2.2) n (false, (0 : Int), can6) else kx0 can6)
def spec_l22Reach (n : Nat) (legs0 : List SLeg) (from1 : Int) (at2 : Int) (change3 : Int) : Option (List Bool) :=
  chk (decide ((0 : Int) ≤ (legs0.length : Int))) (chk (decide ((legs0.length : Int) ≤ (legs0.length : Int))) (chk (decide ((legs0.length : Int) ≤ 9223372036854775807 ∧ (legs0.length : Int) * (1 : Int) ≤ 281474976710656)) (loopN (fun (x : Bool × List Bool) J' => spec_l22Reach_L3 n (fun can92 => some (can92)) (fun again93 can94 => J' (again93, can94)) legs0 from1 at2 change3 x.1 x.2) n (true, (List.replicate (legs0.length : Int).toNat false)))))
def spec_Earliest_k0 {R : Type} (n : Nat) (kx2 : List Int → Option R) (J : Int → List Int → Option R) (legs16 : List SLeg) (from17 : Int) (at18 : Int) (p19 : Int) (i37 : Int) (t38 : Bool) (can21 : List Bool) (out39 : List Int) : Option R :=
  (bif t38 then ix i37 legs16.length ((bd (legs16.getD i37.toNat dSLeg) fun (e40 : SLeg) => ix p19 out39.length (chk (decide (p19.toNat < out39.length)) ((bd (out39.set p19.toNat e40.Comes) fun (l41 : List Int) => J (w64 (i37 + (1 : Int))) l41))))) else J (w64 (i37 + (1 : Int))) out39)
def spec_Earliest_k1 {R : Type} (n : Nat) (kx2 : List Int → Option R) (J : Int → List Int → Option R) (legs16 : List SLeg) (from17 : Int) (at18 : Int) (p19 : Int) (i23 : Int) (can21 : List Bool) (out24 : List Int) : Option R :=
  ix i23 can21.length (chk (decide (i23.toNat < can21.length)) ((bif (can21.getD i23.toNat false) then ix i23 legs16.length ((bd (legs16.getD i23.toNat dSLeg) fun (e25 : SLeg) => (bif (decide (e25.To = p19)) then ix p19 out24.length (chk (decide (p19.toNat < out24.length)) ((bif (decide ((out24.getD p19.toNat (0 : Int)) < (0 : Int))) then ix i23 legs16.length ((bd (legs16.getD i23.toNat dSLeg) fun (e32 : SLeg) => ix p19 out24.length (chk (decide (p19.toNat < out24.length)) ((bd (out24.set p19.toNat e32.Comes) fun (l33 : List Int) => J (w64 (i23 + (1 : Int))) l33))))) else ix i23 legs16.length ((bd (legs16.getD i23.toNat dSLeg) fun (e36 : SLeg) => ix p19 out24.length (chk (decide (p19.toNat < out24.length)) (spec_Earliest_k0 n kx2 J legs16 from17 at18 p19 i23 (decide (e36.Comes < (out24.getD p19.toNat (0 : Int)))) can21 out24))))))) else J (w64 (i23 + (1 : Int))) out24))) else J (w64 (i23 + (1 : Int))) out24)))
def spec_Earliest_L10 {R : Type} (n : Nat) (kx2 : List Int → Option R) (J : Int → List Int → Option R) (legs16 : List SLeg) (from17 : Int) (at18 : Int) (p19 : Int) (i20 : Int) (can21 : List Bool) (out22 : List Int) : Option R :=
  (bif (decide (i20 < (legs16.length : Int))) then spec_Earliest_k1 n kx2 J legs16 from17 at18 p19 i20 can21 out22 else kx2 out22)
def spec_Earliest_k2 {R : Type} (n : Nat) (kx0 : List Int → Option R) (J : Int → List Int → Option R) (legs7 : List SLeg) (from8 : Int) (at9 : Int) (p13 : Int) (can11 : List Bool) (out14 : List Int) : Option R :=
  ix p13 out14.length (chk (decide (p13.toNat < out14.length)) ((bd (out14.set p13.toNat (-1 : Int)) fun (l15 : List Int) => loopN (fun (x : Int × List Int) J' => spec_Earliest_L10 n (fun out56 => J (w64 (p13 + (1 : Int))) out56) (fun i57 out58 => J' (i57, out58)) legs7 from8 at9 p13 x.1 can11 x.2) n ((0 : Int), l15))))
def spec_Earliest_L6 {R : Type} (n : Nat) (kx0 : List Int → Option R) (J : Int → List Int → Option R) (legs7 : List SLeg) (from8 : Int) (at9 : Int) (p10 : Int) (can11 : List Bool) (out12 : List Int) : Option R :=
  (bif (decide (p10 < (20 : Int))) then spec_Earliest_k2 n kx0 J legs7 from8 at9 p10 can11 out12 else kx0 out12)
def spec_Earliest_k3 (n : Nat)  (legs0 : List SLeg) (from1 : Int) (at2 : Int) (change3 : Int) : Option (List Int × Bool) :=
  (spec_l22Reach n legs0 from1 at2 change3).bind fun r6 => loopN (fun (x : Int × List Int) J' => spec_Earliest_L6 n (fun out59 => ix from1 out59.length (chk (decide (from1.toNat < out59.length)) (some ((out59.set from1.toNat at2), true)))) (fun p60 out61 => J' (p60, out61)) legs0 from1 at2 x.1 r6 x.2) n ((0 : Int), (List.replicate 20 (0 : Int)))
def spec_Earliest (n : Nat) (legs0 : List SLeg) (from1 : Int) (at2 : Int) (change3 : Int) : Option (List Int × Bool) :=
  (spec_LegsOk n legs0).bind fun r1 => (bif (!r1) then some ([], false) else (spec_l1In n from1 (0 : Int) (19 : Int)).bind fun r2 => (bif (!r2) then some ([], false) else (spec_l1Minute n at2).bind fun r3 => (bif (!r3) then some ([], false) else (spec_l1In n change3 (0 : Int) (10000 : Int)).bind fun r4 => (bif (!r4) then some ([], false) else spec_Earliest_k3 n  legs0 from1 at2 change3))))
def spec_l22Seek_k0 {R : Type} (n : Nat) (rc : List SLeg → List Int → Int → Int → Int → Int → Int → Int → Int → Option (List Int × Bool)) (kx0 : Option R) (kxr : Bool → List Int → Option R) (J : Int → Option R) (legs1 : List SLeg) (so2 : List Int) (port3 : Int) (at4 : Int) (service5 : Int) (to6 : Int) (when7 : Int) (change8 : Int) (left9 : Int) (i22 : Int) (x23 : SLeg) : Option R :=
  chk (decide (so2.length * 8 ≤ 140737488355328)) (chk (decide ((so2 ++ [i22]).length * 8 ≤ 140737488355328)) ((bif (decide (left9 = (1 : Int))) then (bif (decide (x23.To = to6)) then (bif (decide (x23.Comes = when7)) then kxr true (so2 ++ [i22]) else J (w64 (i22 + (1 : Int)))) else J (w64 (i22 + (1 : Int)))) else (bd (w64 (left9 - (1 : Int))) fun (v44 : Int) => (rc legs1 (so2 ++ [i22]) x23.To x23.Comes x23.Service to6 when7 change8 v44).bind fun r45 => (bif r45.2 then kxr true r45.1 else J (w64 (i22 + (1 : Int))))))))
def spec_l22Seek_k1 {R : Type} (n : Nat) (rc : List SLeg → List Int → Int → Int → Int → Int → Int → Int → Int → Option (List Int × Bool)) (kx0 : Option R) (kxr : Bool → List Int → Option R) (J : Int → Option R) (legs1 : List SLeg) (so2 : List Int) (port3 : Int) (at4 : Int) (service5 : Int) (to6 : Int) (when7 : Int) (change8 : Int) (left9 : Int) (i11 : Int) : Option R :=
  ix i11 legs1.length ((bd (legs1.getD i11.toNat dSLeg) fun (e12 : SLeg) => (bif (!(decide (e12.From = port3))) then J (w64 (i11 + (1 : Int))) else (spec_l22May n e12 at4 service5 change8).bind fun r17 => (bif (!r17) then J (w64 (i11 + (1 : Int))) else spec_l22Seek_k0 n rc kx0 kxr J legs1 so2 port3 at4 service5 to6 when7 change8 left9 i11 e12))))
def spec_l22Seek_L2 {R : Type} (n : Nat) (rc : List SLeg → List Int → Int → Int → Int → Int → Int → Int → Int → Option (List Int × Bool)) (kx0 : Option R) (kxr : Bool → List Int → Option R) (J : Int → Option R) (legs1 : List SLeg) (so2 : List Int) (port3 : Int) (at4 : Int) (service5 : Int) (to6 : Int) (when7 : Int) (change8 : Int) (left9 : Int) (i10 : Int) : Option R :=
  (bif (decide (i10 < (legs1.length : Int))) then spec_l22Seek_k1 n rc kx0 kxr J legs1 so2 port3 at4 service5 to6 when7 change8 left9 i10 else kx0)
def spec_l22Seek_b (n : Nat) (rc : List SLeg → List Int → Int → Int → Int → Int → Int → Int → Int → Option (List Int × Bool)) (legs0 : List SLeg) (so1 : List Int) (port2 : Int) (at3 : Int) (service4 : Int) (to5 : Int) (when6 : Int) (change7 : Int) (left8 : Int) : Option (List Int × Bool) :=
  loopN (fun (x : Int) J' => spec_l22Seek_L2 n rc (some ([], false)) (fun t50 t51 => some (t51, t50)) J' legs0 so1 port2 at3 service4 to5 when6 change7 left8 x) n ((0 : Int))
def spec_l22Seek_r (n : Nat) : Nat → List SLeg → List Int → Int → Int → Int → Int → Int → Int → Int → Option (List Int × Bool)
  | 0 => fun _ _ _ _ _ _ _ _ _ => none
  | m + 1 => fun legs0 so1 port2 at3 service4 to5 when6 change7 left8 => spec_l22Seek_b n (spec_l22Seek_r n m) legs0 so1 port2 at3 service4 to5 when6 change7 left8
def spec_l22Seek (n : Nat) (legs0 : List SLeg) (so1 : List Int) (port2 : Int) (at3 : Int) (service4 : Int) (to5 : Int) (when6 : Int) (change7 : Int) (left8 : Int) : Option (List Int × Bool) := spec_l22Seek_r n n legs0 so1 port2 at3 service4 to5 when6 change7 left8
def spec_Travel_L7 {R : Type} (n : Nat) (kx0 : Option R) (kxr : Bool → List Int → Option R) (J : Int → Option R) (legs9 : List SLeg) (from10 : Int) (to11 : Int) (at12 : Int) (change13 : Int) (n14 : Int) (when15 : List Int) : Option R :=
  (bif (decide (n14 ≤ (6 : Int))) then ix to11 when15.length (chk (decide (to11.toNat < when15.length)) ((spec_l22Seek n legs9 [] from10 at12 (0 : Int) to11 (when15.getD to11.toNat (0 : Int)) change13 n14).bind fun r19 => (bif r19.2 then kxr true r19.1 else J (w64 (n14 + (1 : Int)))))) else kx0)
def spec_Travel (n : Nat) (legs0 : List SLeg) (from1 : Int) (to2 : Int) (at3 : Int) (change4 : Int) : Option (List Int × Bool) :=
  (spec_Earliest n legs0 from1 at3 change4).bind fun r1 => (bif (!r1.2) then some ([], false) else (spec_l1In n to2 (0 : Int) (19 : Int)).bind fun r3 => (bif (!r3) then some ([], false) else ix to2 r1.1.length (chk (decide (to2.toNat < r1.1.length)) ((bif (decide ((r1.1.getD to2.toNat (0 : Int)) < (0 : Int))) then some ([], false) else (bif (decide (from1 = to2)) then some ([], true) else loopN (fun (x : Int) J' => spec_Travel_L7 n (some ([], false)) (fun t33 t34 => some (t34, t33)) J' legs0 from1 to2 at3 change4 x r1.1) n ((1 : Int))))))))
def impl_in (n : Nat) (n0 : Int) (least1 : Int) (most2 : Int) : Option Bool :=
  (bif (decide (n0 ≥ least1)) then some ((decide (n0 ≤ most2))) else some (false))
def impl_linePort (n : Nat) (n0 : Int) : Option Bool :=
  (impl_in n n0 (0 : Int) (19 : Int)).bind fun r1 => some (r1)
def impl_minuteOk (n : Nat) (n0 : Int) : Option Bool :=
  (impl_in n n0 (0 : Int) (100000000 : Int)).bind fun r1 => some (r1)
def impl_LegsOk_k0 {R : Type} (n : Nat) (kx0 : Option R) (kxr : Bool → Option R) (J : Int → List (Int × SLeg) → Option R) (t1 : List SLeg) (t2 : Int) (t39 : Int) (t40 : List (Int × SLeg)) (l41 : SLeg) : Option R :=
  (bd (mgetI t40 l41.Service) fun (g42 : Option SLeg) => (bif g42.isSome then (bif (!(decide ((g42.getD dSLeg).To = l41.From))) then kxr false else (bif (decide (l41.Leaves < (g42.getD dSLeg).Comes)) then kxr false else J (w64 (t39 + (1 : Int))) (mputI t40 l41.Service l41))) else J (w64 (t39 + (1 : Int))) (mputI t40 l41.Service l41)))
def impl_LegsOk_k1 {R : Type} (n : Nat) (kx0 : Option R) (kxr : Bool → Option R) (J : Int → List (Int × SLeg) → Option R) (t1 : List SLeg) (t2 : Int) (t5 : Int) (t6 : List (Int × SLeg)) : Option R :=
  ix t5 t1.length ((bd (t1.getD t5.toNat dSLeg) fun (e7 : SLeg) => (impl_in n e7.Service (1 : Int) (100 : Int)).bind fun r8 => (bif (!r8) then kxr false else (impl_linePort n e7.From).bind fun r12 => (bif (!r12) then kxr false else (impl_linePort n e7.To).bind fun r16 => (bif (!r16) then kxr false else (bif (decide (e7.From = e7.To)) then kxr false else (impl_minuteOk n e7.Leaves).bind fun r23 => (bif (!r23) then kxr false else (impl_minuteOk n e7.Comes).bind fun r27 => (bif (!r27) then kxr false else (bif (decide (e7.Leaves ≥ e7.Comes)) then kxr false else (impl_in n e7.Room (0 : Int) (1000000 : Int)).bind fun r34 => (bif (!r34) then kxr false else impl_LegsOk_k0 n kx0 kxr J t1 t2 t5 t6 e7))))))))))
def impl_LegsOk_L5 {R : Type} (n : Nat) (kx0 : Option R) (kxr : Bool → Option R) (J : Int → List (Int × SLeg) → Option R) (t1 : List SLeg) (t2 : Int) (t3 : Int) (t4 : List (Int × SLeg)) : Option R :=
  (bif (decide (t3 < t2)) then impl_LegsOk_k1 n kx0 kxr J t1 t2 t3 t4 else kx0)
def impl_LegsOk (n : Nat) (legs0 : List SLeg) : Option Bool :=
  (bif (decide ((legs0.length : Int) > (60 : Int))) then some (false) else loopN (fun (x : Int × (List (Int × SLeg))) J' => impl_LegsOk_L5 n (some (true)) (fun t81 => some (t81)) (fun t82 t83 => J' (t82, t83)) legs0 (legs0.length : Int) x.1 x.2) n ((0 : Int), []))
def impl_lineRight (n : Nat) (legs0 : List SLeg) (from1 : Int) (at2 : Int) (change3 : Int) : Option Bool :=
  (impl_LegsOk n legs0).bind fun r1 => (bif r1 then (impl_linePort n from1).bind fun r2 => (bif r2 then (impl_minuteOk n at2).bind fun r3 => (bif r3 then (impl_in n change3 (0 : Int) (10000 : Int)).bind fun r4 => some (r4) else some (false)) else some (false)) else some (false))
def cmp_isNaN_int (n : Nat) (x0 : Int) : Option Bool :=
  some ((!(decide (x0 = x0))))
def cmp_Compare_int (n : Nat) (x0 : Int) (y1 : Int) : Option Int :=
  (cmp_isNaN_int n x0).bind fun r1 => (cmp_isNaN_int n y1).bind fun r2 => (bif r1 then (bif r2 then some ((0 : Int)) else some ((-1 : Int))) else (bif r2 then some ((1 : Int)) else (bif (decide (x0 < y1)) then some ((-1 : Int)) else (bif (decide (x0 > y1)) then some ((1 : Int)) else some ((0 : Int))))))
def impl_Earliest_1 (n : Nat) (a0 : Int) (b1 : Int) (a2 : List SLeg) : Option Int :=
  ix a0 a2.length ((bd (a2.getD a0.toNat dSLeg) fun (e1 : SLeg) => ix b1 a2.length ((bd (a2.getD b1.toNat dSLeg) fun (e2 : SLeg) => (cmp_Compare_int n e1.Leaves e2.Leaves).bind fun r3 => some (r3)))))
def slices_SortFunc_int_int__impl_Earliest_1 (n : Nat) (l0 : List Int) (c0 : List SLeg) : Option (List Int) :=
  sortL (0 : Int) (fun a b => impl_Earliest_1 n a b c0) l0
def impl_changes (n : Nat) (i0 : SLeg) (j1 : SLeg) (change2 : Int) : Option Bool :=
  (bif (decide (i0.Service = j1.Service)) then (bif (decide (i0.To = j1.From)) then (bd (w64 (i0.Comes + (0 : Int))) fun (v3 : Int) => some ((decide (v3 ≤ j1.Leaves)))) else some (false)) else (bif (decide (i0.To = j1.From)) then (bd (w64 (i0.Comes + change2)) fun (v8 : Int) => some ((decide (v8 ≤ j1.Leaves)))) else some (false)))
def impl_Earliest_L5 {R : Type} (n : Nat) (kx0 : List Int → Option R) (J : Int → List Int → Option R) (from2 : Int) (at3 : Int) (change4 : Int) (t5 : Int) (t6 : Int) (legs7 : List SLeg) (out8 : List Int) : Option R :=
  (bif (decide (t6 < t5)) then ix t6 out8.length (chk (decide (t6.toNat < out8.length)) ((bd (out8.set t6.toNat (-1 : Int)) fun (l12 : List Int) => J (w64 (t6 + (1 : Int))) l12))) else kx0 out8)
def impl_Earliest_L12 {R : Type} (n : Nat) (kx2 : List Int → Option R) (J : Int → List Int → Option R) (from14 : Int) (at15 : Int) (change16 : Int) (t17 : Int) (t18 : Int) (legs19 : List SLeg) (out20 : List Int) (order21 : List Int) : Option R :=
  (bif (decide (t18 < t17)) then ix t18 order21.length (chk (decide (t18.toNat < order21.length)) (J (w64 (t18 + (1 : Int))) (order21.set t18.toNat t18))) else kx2 order21)
def impl_Earliest_k0 {R : Type} (n : Nat) (kx6 : List Bool → Option R) (J : Int → List Bool → Option R) (from45 : Int) (at46 : Int) (change47 : Int) (j48 : Int) (t49 : Int) (t50 : Int) (t51 : Int) (t58 : Int) (legs53 : List SLeg) (out54 : List Int) (taken59 : List Bool) (l56 : SLeg) (t57 : List Int) : Option R :=
  ix j48 taken59.length (chk (decide (j48.toNat < taken59.length)) ((bif (taken59.getD j48.toNat false) then ix j48 taken59.length (chk (decide (j48.toNat < taken59.length)) (J (w64 (t58 + (1 : Int))) (taken59.set j48.toNat true))) else ix t58 taken59.length (chk (decide (t58.toNat < taken59.length)) ((bif (taken59.getD t58.toNat false) then ix t58 legs53.length ((bd (legs53.getD t58.toNat dSLeg) fun (e62 : SLeg) => (impl_changes n e62 l56 change47).bind fun r63 => ix j48 taken59.length (chk (decide (j48.toNat < taken59.length)) (J (w64 (t58 + (1 : Int))) (taken59.set j48.toNat r63))))) else ix j48 taken59.length (chk (decide (j48.toNat < taken59.length)) ((bd (taken59.set j48.toNat false) fun (l66 : List Bool) => J (w64 (t58 + (1 : Int))) l66)))))))))
def impl_Earliest_L24 {R : Type} (n : Nat) (kx6 : List Bool → Option R) (J : Int → List Bool → Option R) (from45 : Int) (at46 : Int) (change47 : Int) (j48 : Int) (t49 : Int) (t50 : Int) (t51 : Int) (t52 : Int) (legs53 : List SLeg) (out54 : List Int) (taken55 : List Bool) (l56 : SLeg) (t57 : List Int) : Option R :=
  (bif (decide (t52 < t51)) then impl_Earliest_k0 n kx6 J from45 at46 change47 j48 t49 t50 t51 t52 legs53 out54 taken55 l56 t57 else kx6 taken55)
def impl_Earliest_k1 {R : Type} (n : Nat) (kx4 : List Int → Option R) (J : Int → List Int → List Bool → Option R) (from26 : Int) (at27 : Int) (change28 : Int) (j40 : Int) (t29 : Int) (t41 : Int) (legs31 : List SLeg) (out42 : List Int) (taken43 : List Bool) (l44 : SLeg) (t34 : List Int) : Option R :=
  loopN (fun (x : Int × List Bool) J' => impl_Earliest_L24 n (fun taken69 => ix j40 taken69.length (chk (decide (j40.toNat < taken69.length)) ((bif (taken69.getD j40.toNat false) then ix l44.To out42.length (chk (decide (l44.To.toNat < out42.length)) ((bif (decide ((out42.getD l44.To.toNat (0 : Int)) < (0 : Int))) then ix l44.To out42.length (chk (decide (l44.To.toNat < out42.length)) ((bd (out42.set l44.To.toNat l44.Comes) fun (l78 : List Int) => J (w64 (t41 + (1 : Int))) l78 taken69))) else ix l44.To out42.length (chk (decide (l44.To.toNat < out42.length)) ((bif (decide (l44.Comes < (out42.getD l44.To.toNat (0 : Int)))) then ix l44.To out42.length (chk (decide (l44.To.toNat < out42.length)) ((bd (out42.set l44.To.toNat l44.Comes) fun (l94 : List Int) => J (w64 (t41 + (1 : Int))) l94 taken69))) else J (w64 (t41 + (1 : Int))) out42 taken69)))))) else J (w64 (t41 + (1 : Int))) out42 taken69)))) (fun t111 taken112 => J' (t111, taken112)) from26 at27 change28 j40 t29 t41 (legs31.length : Int) x.1 legs31 out42 x.2 l44 t34) n ((0 : Int), taken43)
def impl_Earliest_k2 {R : Type} (n : Nat) (kx4 : List Int → Option R) (J : Int → List Int → List Bool → Option R) (from26 : Int) (at27 : Int) (change28 : Int) (t29 : Int) (t35 : Int) (legs31 : List SLeg) (out36 : List Int) (taken37 : List Bool) (t34 : List Int) : Option R :=
  ix t35 t34.length (chk (decide (t35.toNat < t34.length)) (ix (t34.getD t35.toNat (0 : Int)) legs31.length ((bd (legs31.getD ((t34.getD t35.toNat (0 : Int)).toNat) dSLeg) fun (e38 : SLeg) => (bif (decide (e38.From = from26)) then ix (t34.getD t35.toNat (0 : Int)) taken37.length (chk (decide ((t34.getD t35.toNat (0 : Int)).toNat < taken37.length)) ((bd (taken37.set ((t34.getD t35.toNat (0 : Int)).toNat) (decide (at27 ≤ e38.Leaves))) fun (l39 : List Bool) => impl_Earliest_k1 n kx4 J from26 at27 change28 (t34.getD t35.toNat (0 : Int)) t29 t35 legs31 out36 l39 e38 t34))) else ix (t34.getD t35.toNat (0 : Int)) taken37.length (chk (decide ((t34.getD t35.toNat (0 : Int)).toNat < taken37.length)) ((bd (taken37.set ((t34.getD t35.toNat (0 : Int)).toNat) false) fun (l113 : List Bool) => impl_Earliest_k1 n kx4 J from26 at27 change28 (t34.getD t35.toNat (0 : Int)) t29 t35 legs31 out36 l113 e38 t34))))))))
def impl_Earliest_L19 {R : Type} (n : Nat) (kx4 : List Int → Option R) (J : Int → List Int → List Bool → Option R) (from26 : Int) (at27 : Int) (change28 : Int) (t29 : Int) (t30 : Int) (legs31 : List SLeg) (out32 : List Int) (taken33 : List Bool) (t34 : List Int) : Option R :=
  (bif (decide (t30 < t29)) then impl_Earliest_k2 n kx4 J from26 at27 change28 t29 t30 legs31 out32 taken33 t34 else kx4 out32)
def impl_Earliest_k3 (n : Nat)  (from1 : Int) (at2 : Int) (change3 : Int) (legs0 : List SLeg) : Option (List Int × Bool) :=
  loopN (fun (x : Int × List Int) J' => impl_Earliest_L5 n (fun out13 => ix from1 out13.length (chk (decide (from1.toNat < out13.length)) (chk (decide ((0 : Int) ≤ (legs0.length : Int))) (chk (decide ((legs0.length : Int) ≤ (legs0.length : Int))) (chk (decide ((legs0.length : Int) ≤ 9223372036854775807 ∧ (legs0.length : Int) * (8 : Int) ≤ 281474976710656)) (loopN (fun (x : Int × List Int) J' => impl_Earliest_L12 n (fun order24 => (slices_SortFunc_int_int__impl_Earliest_1 n order24 legs0).bind fun r25 => chk (decide ((0 : Int) ≤ (legs0.length : Int))) (chk (decide ((legs0.length : Int) ≤ (legs0.length : Int))) (chk (decide ((legs0.length : Int) ≤ 9223372036854775807 ∧ (legs0.length : Int) * (1 : Int) ≤ 281474976710656)) (loopN (fun (x : Int × List Int × List Bool) J' => impl_Earliest_L19 n (fun out119 => some (out119, true)) (fun t120 out121 taken122 => J' (t120, out121, taken122)) from1 at2 change3 (r25.length : Int) x.1 legs0 x.2.1 x.2.2 r25) n ((0 : Int), (out13.set from1.toNat at2), (List.replicate (legs0.length : Int).toNat false)))))) (fun t123 order124 => J' (t123, order124)) from1 at2 change3 ((List.replicate (legs0.length : Int).toNat (0 : Int)).length : Int) x.1 legs0 (out13.set from1.toNat at2) x.2) n ((0 : Int), (List.replicate (legs0.length : Int).toNat (0 : Int))))))))) (fun t125 out126 => J' (t125, out126)) from1 at2 change3 ((List.replicate 20 (0 : Int)).length : Int) x.1 legs0 x.2) n ((0 : Int), (List.replicate 20 (0 : Int)))
def impl_Earliest (n : Nat) (legs0 : List SLeg) (from1 : Int) (at2 : Int) (change3 : Int) : Option (List Int × Bool) :=
  (impl_lineRight n legs0 from1 at2 change3).bind fun r1 => (bif (!r1) then some ([], false) else impl_Earliest_k3 n  from1 at2 change3 legs0)
def impl_Travel_1_k0 (n : Nat)  (j0 : Int) (a1 : List Int) (a2 : List SLeg) (a5 : Int) : Option Bool :=
  (bd (w64 ((a1.length : Int) - (1 : Int))) fun (v4 : Int) => ix v4 a1.length (ix (a1.getD v4.toNat (0 : Int)) a2.length ((bd (a2.getD ((a1.getD v4.toNat (0 : Int)).toNat) dSLeg) fun (e5 : SLeg) => ix j0 a2.length ((bd (a2.getD j0.toNat dSLeg) fun (e6 : SLeg) => (impl_changes n e5 e6 a5).bind fun r7 => some (r7)))))))
def impl_Travel_1 (n : Nat) (j0 : Int) (a1 : List Int) (a2 : List SLeg) (a3 : Int) (a4 : Int) (a5 : Int) : Option Bool :=
  (bif (decide ((a1.length : Int) = (0 : Int))) then ix j0 a2.length ((bd (a2.getD j0.toNat dSLeg) fun (e1 : SLeg) => (bif (decide (e1.From = a3)) then ix j0 a2.length ((bd (a2.getD j0.toNat dSLeg) fun (e2 : SLeg) => some ((decide (a4 ≤ e2.Leaves))))) else some (false)))) else impl_Travel_1_k0 n  j0 a1 a2 a5)
def impl_own_int (n : Nat) (l0 : List Int) : Option (List Int) :=
  chk (decide ((0 : Int) ≤ (l0.length : Int))) (chk (decide ((l0.length : Int) ≤ 9223372036854775807 ∧ (l0.length : Int) * (8 : Int) ≤ 281474976710656)) (chk (decide (l0.length * 8 ≤ 140737488355328)) (some (l0))))
def impl_Travel_k0 {R : Type} (n : Nat) (kx0 : List (List Bool) → Option R) (J : Int → List (List Bool) → Option R) (to9 : Int) (t10 : List SLeg) (t11 : Int) (t19 : Int) (legs13 : List SLeg) (from14 : Int) (at15 : Int) (change16 : Int) (e17 : List Int) (ends20 : List (List Bool)) : Option R :=
  ix t19 t10.length ((bd (t10.getD t19.toNat dSLeg) fun (e21 : SLeg) => ix (0 : Int) ends20.length (chk (decide (0 < ends20.length)) ((bif (decide (e21.To = to9)) then ix to9 e17.length (chk (decide (to9.toNat < e17.length)) (chk (decide (0 < ends20.length)) (ix t19 ((ends20.getD 0 []).length) (chk (decide (0 < ends20.length)) (chk (decide (t19.toNat < (ends20.getD 0 []).length)) ((bd (ends20.set 0 ((ends20.getD 0 []).set t19.toNat (decide (e21.Comes = (e17.getD to9.toNat (0 : Int)))))) fun (l22 : List (List Bool)) => J (w64 (t19 + (1 : Int))) l22))))))) else chk (decide (0 < ends20.length)) (ix t19 ((ends20.getD 0 []).length) (chk (decide (0 < ends20.length)) (chk (decide (t19.toNat < (ends20.getD 0 []).length)) ((bd (ends20.set 0 ((ends20.getD 0 []).set t19.toNat false)) fun (l25 : List (List Bool)) => J (w64 (t19 + (1 : Int))) l25))))))))))
def impl_Travel_L8 {R : Type} (n : Nat) (kx0 : List (List Bool) → Option R) (J : Int → List (List Bool) → Option R) (to9 : Int) (t10 : List SLeg) (t11 : Int) (t12 : Int) (legs13 : List SLeg) (from14 : Int) (at15 : Int) (change16 : Int) (e17 : List Int) (ends18 : List (List Bool)) : Option R :=
  (bif (decide (t12 < t11)) then impl_Travel_k0 n kx0 J to9 t10 t11 t12 legs13 from14 at15 change16 e17 ends18 else kx0 ends18)
def impl_Travel_L21 {R : Type} (n : Nat) (kx6 : Int → Option R) (J : Int → Option R) (n47 : Int) (k48 : Int) (j49 : Int) (legs50 : List SLeg) (from51 : Int) (at52 : Int) (change53 : Int) (ends54 : List (List Bool)) (c55 : List Int) : Option R :=
  (bif (decide (j49 < (legs50.length : Int))) then ix k48 ends54.length (chk (decide (k48.toNat < ends54.length)) (chk (decide (k48.toNat < ends54.length)) (ix j49 ((ends54.getD k48.toNat []).length) (chk (decide (k48.toNat < ends54.length)) (chk (decide (j49.toNat < (ends54.getD k48.toNat []).length)) ((bif ((ends54.getD k48.toNat []).getD j49.toNat false) then (impl_Travel_1 n j49 c55 legs50 from51 at52 change53).bind fun r56 => (bif (!r56) then J (w64 (j49 + (1 : Int))) else kx6 j49) else J (w64 (j49 + (1 : Int)))))))))) else kx6 j49)
def impl_Travel_k1 {R : Type} (n : Nat) (kx4 : List Int → Option R) (J : Int → List Int → Option R) (n37 : Int) (k45 : Int) (legs39 : List SLeg) (from40 : Int) (at41 : Int) (change42 : Int) (ends43 : List (List Bool)) (c46 : List Int) : Option R :=
  loopN (fun (x : Int) J' => impl_Travel_L21 n (fun j65 => (bif (decide (j65 = (legs39.length : Int))) then kx4 c46 else chk (decide ((c46 ++ [j65]).length * 8 ≤ 140737488355328)) (J (w64 (k45 - (1 : Int))) (c46 ++ [j65])))) J' n37 k45 x legs39 from40 at41 change42 ends43 c46) n ((0 : Int))
def impl_Travel_L18 {R : Type} (n : Nat) (kx4 : List Int → Option R) (J : Int → List Int → Option R) (n37 : Int) (k38 : Int) (legs39 : List SLeg) (from40 : Int) (at41 : Int) (change42 : Int) (ends43 : List (List Bool)) (c44 : List Int) : Option R :=
  (bif (decide (k38 ≥ (0 : Int))) then impl_Travel_k1 n kx4 J n37 k38 legs39 from40 at41 change42 ends43 c44 else kx4 c44)
def impl_Travel_k2 {R : Type} (n : Nat) (kx10 : List Bool → Option R) (J : Int → List Bool → Option R) (n89 : Int) (i90 : Int) (t91 : Int) (t92 : Int) (t93 : Int) (t101 : Int) (legs95 : List SLeg) (from96 : Int) (at97 : Int) (change98 : Int) (ends99 : List (List Bool)) (next102 : List Bool) : Option R :=
  ix i90 next102.length (chk (decide (i90.toNat < next102.length)) ((bif (next102.getD i90.toNat false) then ix i90 next102.length (chk (decide (i90.toNat < next102.length)) (J (w64 (t101 + (1 : Int))) (next102.set i90.toNat true))) else ix n89 ends99.length (chk (decide (n89.toNat < ends99.length)) (chk (decide (n89.toNat < ends99.length)) (ix t101 ((ends99.getD n89.toNat []).length) (chk (decide (n89.toNat < ends99.length)) (chk (decide (t101.toNat < (ends99.getD n89.toNat []).length)) ((bif ((ends99.getD n89.toNat []).getD t101.toNat false) then ix i90 legs95.length ((bd (legs95.getD i90.toNat dSLeg) fun (e105 : SLeg) => ix t101 legs95.length ((bd (legs95.getD t101.toNat dSLeg) fun (e106 : SLeg) => (impl_changes n e105 e106 change98).bind fun r107 => ix i90 next102.length (chk (decide (i90.toNat < next102.length)) (J (w64 (t101 + (1 : Int))) (next102.set i90.toNat r107))))))) else ix i90 next102.length (chk (decide (i90.toNat < next102.length)) ((bd (next102.set i90.toNat false) fun (l110 : List Bool) => J (w64 (t101 + (1 : Int))) l110)))))))))))))
def impl_Travel_L32 {R : Type} (n : Nat) (kx10 : List Bool → Option R) (J : Int → List Bool → Option R) (n89 : Int) (i90 : Int) (t91 : Int) (t92 : Int) (t93 : Int) (t94 : Int) (legs95 : List SLeg) (from96 : Int) (at97 : Int) (change98 : Int) (ends99 : List (List Bool)) (next100 : List Bool) : Option R :=
  (bif (decide (t94 < t93)) then impl_Travel_k2 n kx10 J n89 i90 t91 t92 t93 t94 legs95 from96 at97 change98 ends99 next100 else kx10 next100)
def impl_Travel_L29 {R : Type} (n : Nat) (kx8 : List Bool → Option R) (J : Int → List Bool → Option R) (n78 : Int) (t79 : Int) (t80 : Int) (legs81 : List SLeg) (from82 : Int) (at83 : Int) (change84 : Int) (ends85 : List (List Bool)) (next86 : List Bool) : Option R :=
  (bif (decide (t80 < t79)) then loopN (fun (x : Int × List Bool) J' => impl_Travel_L32 n (fun next116 => J (w64 (t80 + (1 : Int))) next116) (fun t117 next118 => J' (t117, next118)) n78 t80 t79 t80 (legs81.length : Int) x.1 legs81 from82 at83 change84 ends85 x.2) n ((0 : Int), next86) else kx8 next86)
def impl_Travel_k3 {R : Type} (n : Nat) (kx2 : Option R) (kxr : Bool → List Int → Option R) (J : Int → List (List Bool) → Option R) (n76 : Int) (legs30 : List SLeg) (from31 : Int) (at32 : Int) (change33 : Int) (ends77 : List (List Bool)) : Option R :=
  chk (decide ((0 : Int) ≤ (legs30.length : Int))) (chk (decide ((legs30.length : Int) ≤ (legs30.length : Int))) (chk (decide ((legs30.length : Int) ≤ 9223372036854775807 ∧ (legs30.length : Int) * (1 : Int) ≤ 281474976710656)) (loopN (fun (x : Int × List Bool) J' => impl_Travel_L29 n (fun next119 => chk (decide ((ends77 ++ [next119]).length * 24 ≤ 140737488355328)) (J (w64 (n76 + (1 : Int))) (ends77 ++ [next119]))) (fun t122 next123 => J' (t122, next123)) n76 (legs30.length : Int) x.1 legs30 from31 at32 change33 ends77 x.2) n ((0 : Int), (List.replicate (legs30.length : Int).toNat false)))))
def impl_Travel_k4 {R : Type} (n : Nat) (kx2 : Option R) (kxr : Bool → List Int → Option R) (J : Int → List (List Bool) → Option R) (n35 : Int) (legs30 : List SLeg) (from31 : Int) (at32 : Int) (change33 : Int) (ends36 : List (List Bool)) : Option R :=
  loopN (fun (x : Int × List Int) J' => impl_Travel_L18 n (fun c74 => (bif (decide ((c74.length : Int) = (w64 (n35 + (1 : Int))))) then (impl_own_int n c74).bind fun r75 => kxr true r75 else impl_Travel_k3 n kx2 kxr J n35 legs30 from31 at32 change33 ends36)) (fun k124 c125 => J' (k124, c125)) n35 x.1 legs30 from31 at32 change33 ends36 x.2) n (n35, [])
def impl_Travel_L13 {R : Type} (n : Nat) (kx2 : Option R) (kxr : Bool → List Int → Option R) (J : Int → List (List Bool) → Option R) (n29 : Int) (legs30 : List SLeg) (from31 : Int) (at32 : Int) (change33 : Int) (ends34 : List (List Bool)) : Option R :=
  (bif (decide (n29 < (6 : Int))) then impl_Travel_k4 n kx2 kxr J n29 legs30 from31 at32 change33 ends34 else kx2)
def impl_Travel_k5 (n : Nat)  (to2 : Int) (legs0 : List SLeg) (from1 : Int) (at3 : Int) (change4 : Int) (t8 : List Int) : Option (List Int × Bool) :=
  chk (decide ((0 : Int) ≤ (legs0.length : Int))) (chk (decide ((legs0.length : Int) ≤ (legs0.length : Int))) (chk (decide ((legs0.length : Int) ≤ 9223372036854775807 ∧ (legs0.length : Int) * (1 : Int) ≤ 281474976710656)) (loopN (fun (x : Int × List (List Bool)) J' => impl_Travel_L8 n (fun ends28 => loopN (fun (x : Int × List (List Bool)) J' => impl_Travel_L13 n (some ([], false)) (fun t126 t127 => some (t127, t126)) (fun n128 ends129 => J' (n128, ends129)) x.1 legs0 from1 at3 change4 x.2) n ((0 : Int), ends28)) (fun t130 ends131 => J' (t130, ends131)) to2 legs0 (legs0.length : Int) x.1 legs0 from1 at3 change4 t8 x.2) n ((0 : Int), [(List.replicate (legs0.length : Int).toNat false)]))))
def impl_Travel (n : Nat) (legs0 : List SLeg) (from1 : Int) (to2 : Int) (at3 : Int) (change4 : Int) : Option (List Int × Bool) :=
  (impl_Earliest n legs0 from1 at3 change4).bind fun r1 => (bif (!r1.2) then some ([], false) else (impl_linePort n to2).bind fun r3 => (bif (!r3) then some ([], false) else ix to2 r1.1.length (chk (decide (to2.toNat < r1.1.length)) ((bif (decide ((r1.1.getD to2.toNat (0 : Int)) < (0 : Int))) then some ([], false) else (bif (decide (from1 = to2)) then some ([], true) else impl_Travel_k5 n  to2 legs0 from1 at3 change4 r1.1))))))
def laws_eqIntS_L4 {R : Type} (n : Nat) (kx0 : Option R) (kxr : Bool → Option R) (J : Int → Option R) (a1 : List Int) (b2 : List Int) (i3 : Int) : Option R :=
  (bif (decide (i3 < (a1.length : Int))) then ix i3 a1.length (ix i3 b2.length ((bif (!(decide ((a1.getD i3.toNat (0 : Int)) = (b2.getD i3.toNat (0 : Int))))) then kxr false else J (w64 (i3 + (1 : Int)))))) else kx0)
def laws_eqIntS (n : Nat) (a0 : List Int) (b1 : List Int) : Option Bool :=
  (bif (!(decide ((a0.length : Int) = (b1.length : Int)))) then some (false) else loopN (fun (x : Int) J' => laws_eqIntS_L4 n (some (true)) (fun t9 => some (t9)) J' a0 b1 x) n ((0 : Int)))
def laws_eqLeg_k0 (n : Nat)  (a0 : SLeg) (b1 : SLeg) : Option Bool :=
  (bif (!(decide (a0.From = b1.From))) then some (false) else (bif (!(decide (a0.To = b1.To))) then some (false) else (bif (!(decide (a0.Leaves = b1.Leaves))) then some (false) else (bif (!(decide (a0.Comes = b1.Comes))) then some (false) else (bif (!(decide (a0.Room = b1.Room))) then some (false) else some (true))))))
def laws_eqLeg (n : Nat) (a0 : SLeg) (b1 : SLeg) : Option Bool :=
  (bif (!(decide (a0.Service = b1.Service))) then some (false) else laws_eqLeg_k0 n  a0 b1)
def laws_eqLegS_L4 {R : Type} (n : Nat) (kx0 : Option R) (kxr : Bool → Option R) (J : Int → Option R) (a1 : List SLeg) (b2 : List SLeg) (i3 : Int) : Option R :=
  (bif (decide (i3 < (a1.length : Int))) then ix i3 a1.length ((bd (a1.getD i3.toNat dSLeg) fun (e9 : SLeg) => ix i3 b2.length ((bd (b2.getD i3.toNat dSLeg) fun (e10 : SLeg) => (laws_eqLeg n e9 e10).bind fun r11 => (bif (!r11) then kxr false else J (w64 (i3 + (1 : Int)))))))) else kx0)
def laws_eqLegS (n : Nat) (a0 : List SLeg) (b1 : List SLeg) : Option Bool :=
  (bif (!(decide ((a0.length : Int) = (b1.length : Int)))) then some (false) else loopN (fun (x : Int) J' => laws_eqLegS_L4 n (some (true)) (fun t15 => some (t15)) J' a0 b1 x) n ((0 : Int)))
def laws_markLegS_k0 {R : Type} (n : Nat) (kx0 : Int → List SLeg → Option R) (J : Int → Int → List SLeg → Option R) (k4 : Int) (i5 : Int) (p6 : List SLeg) : Option R :=
  ix i5 p6.length (chk (decide (i5.toNat < p6.length)) ((bd (p6.getD i5.toNat dSLeg) fun (e7 : SLeg) => (bd (p6.set i5.toNat (⟨k4, e7.From, e7.To, e7.Leaves, e7.Comes, e7.Room⟩ : SLeg)) fun (l8 : List SLeg) => ix i5 l8.length (chk (decide (i5.toNat < l8.length)) ((bd (l8.getD i5.toNat dSLeg) fun (e9 : SLeg) => (bd (l8.set i5.toNat (⟨e9.Service, (w64 (k4 + (1 : Int))), e9.To, e9.Leaves, e9.Comes, e9.Room⟩ : SLeg)) fun (l10 : List SLeg) => (bd (w64 ((w64 (k4 + (1 : Int))) + (1 : Int))) fun (v11 : Int) => ix i5 l10.length (chk (decide (i5.toNat < l10.length)) ((bd (l10.getD i5.toNat dSLeg) fun (e12 : SLeg) => (bd (l10.set i5.toNat (⟨e12.Service, e12.From, v11, e12.Leaves, e12.Comes, e12.Room⟩ : SLeg)) fun (l13 : List SLeg) => ix i5 l13.length (chk (decide (i5.toNat < l13.length)) ((bd (l13.getD i5.toNat dSLeg) fun (e14 : SLeg) => (bd (l13.set i5.toNat (⟨e14.Service, e14.From, e14.To, (w64 (v11 + (1 : Int))), e14.Comes, e14.Room⟩ : SLeg)) fun (l15 : List SLeg) => (bd (w64 ((w64 (v11 + (1 : Int))) + (1 : Int))) fun (v16 : Int) => ix i5 l15.length (chk (decide (i5.toNat < l15.length)) ((bd (l15.getD i5.toNat dSLeg) fun (e17 : SLeg) => (bd (l15.set i5.toNat (⟨e17.Service, e17.From, e17.To, e17.Leaves, v16, e17.Room⟩ : SLeg)) fun (l18 : List SLeg) => ix i5 l18.length (chk (decide (i5.toNat < l18.length)) ((bd (l18.getD i5.toNat dSLeg) fun (e19 : SLeg) => (bd (l18.set i5.toNat (⟨e19.Service, e19.From, e19.To, e19.Leaves, e19.Comes, (w64 (v16 + (1 : Int)))⟩ : SLeg)) fun (l20 : List SLeg) => (bd (w64 ((w64 (v16 + (1 : Int))) + (1 : Int))) fun (v21 : Int) => J v21 (w64 (i5 + (1 : Int))) l20)))))))))))))))))))))))))))
def laws_markLegS_L2 {R : Type} (n : Nat) (kx0 : Int → List SLeg → Option R) (J : Int → Int → List SLeg → Option R) (k1 : Int) (i2 : Int) (p3 : List SLeg) : Option R :=
  (bif (decide (i2 < (p3.length : Int))) then laws_markLegS_k0 n kx0 J k1 i2 p3 else kx0 k1 p3)
def laws_markLegS (n : Nat) (a0 : List SLeg) (k1 : Int) : Option (Int × List SLeg) :=
  loopN (fun (x : Int × Int × List SLeg) J' => laws_markLegS_L2 n (fun k22 p23 => some (k22, p23)) (fun k24 i25 p26 => J' (k24, i25, p26)) x.1 x.2.1 x.2.2) n (k1, (0 : Int), a0)
def laws_markIntS_L2 {R : Type} (n : Nat) (kx0 : Int → List Int → Option R) (J : Int → Int → List Int → Option R) (k1 : Int) (i2 : Int) (p3 : List Int) : Option R :=
  (bif (decide (i2 < (p3.length : Int))) then ix i2 p3.length (chk (decide (i2.toNat < p3.length)) (J (w64 (k1 + (1 : Int))) (w64 (i2 + (1 : Int))) (p3.set i2.toNat k1))) else kx0 k1 p3)
def laws_markIntS (n : Nat) (a0 : List Int) (k1 : Int) : Option (Int × List Int) :=
  loopN (fun (x : Int × Int × List Int) J' => laws_markIntS_L2 n (fun k7 p8 => some (k7, p8)) (fun k9 i10 p11 => J' (k9, i10, p11)) x.1 x.2.1 x.2.2) n (k1, (0 : Int), a0)
def laws_heldIntS_L2 {R : Type} (n : Nat) (kx0 : Int → Option R) (kxr : Int → Option R) (J : Int → Int → Option R) (a1 : List Int) (k2 : Int) (i3 : Int) : Option R :=
  (bif (decide (i3 < (a1.length : Int))) then ix i3 a1.length ((bif (!(decide ((a1.getD i3.toNat (0 : Int)) = k2))) then kxr (-1 : Int) else J (w64 (k2 + (1 : Int))) (w64 (i3 + (1 : Int))))) else kx0 k2)
def laws_heldIntS (n : Nat) (a0 : List Int) (k1 : Int) : Option Int :=
  loopN (fun (x : Int × Int) J' => laws_heldIntS_L2 n (fun k16 => some (k16)) (fun t17 => some (t17)) (fun k18 i19 => J' (k18, i19)) a0 x.1 x.2) n (k1, (0 : Int))
def laws_FnExactTravel_k0 (n : Nat)  (aLegs0 : List SLeg) (aFrom1 : Int) (aTo2 : Int) (aAt3 : Int) (aChange4 : Int) (w152 : Bool) (m53 : Int) (t54 : List Int) (t55 : List Int) : Option Bool :=
  (laws_toLegS n aLegs0).bind fun r56 => (impl_Travel n r56 aFrom1 aTo2 aAt3 aChange4).bind fun r57 => (laws_eqIntS n r57.1 t54).bind fun r58 => (bif (!r58) then some (false) else (bif (!(r57.2 == w152)) then some (false) else (laws_heldIntS n t55 (1 : Int)).bind fun r74 => (bif (decide (r74 < (0 : Int))) then some (false) else (bif (!(decide (r74 = m53))) then some (false) else some (true)))))
def laws_FnExactTravel_k1 (n : Nat)  (aLegs0 : List SLeg) (aFrom1 : Int) (aTo2 : Int) (aAt3 : Int) (aChange4 : Int) (w138 : Bool) (t39 : Bool) (t40 : List Int) (t41 : List Int) : Option Bool :=
  (bif t39 then some (false) else (laws_markIntS n t41 (1 : Int)).bind fun r81 => (laws_heldIntS n r81.2 (1 : Int)).bind fun r82 => (bif (decide (r82 < (0 : Int))) then some (false) else (bif (!(decide (r82 = r81.1))) then some (false) else laws_FnExactTravel_k0 n  aLegs0 aFrom1 aTo2 aAt3 aChange4 w138 r81.1 t40 r81.2)))
def laws_FnExactTravel_k2 (n : Nat)  (aLegs0 : List SLeg) (aFrom1 : Int) (aTo2 : Int) (aAt3 : Int) (aChange4 : Int) (w118 : Bool) (g119 : Bool) (t20 : List Int) (t21 : List SLeg) (t22 : List Int) : Option Bool :=
  (laws_toLegS n aLegs0).bind fun r23 => (laws_eqLegS n t21 r23).bind fun r24 => (bif (!r24) then some (false) else (laws_markLegS n t21 (1 : Int)).bind fun r92 => (bif (decide (r92.1 < (0 : Int))) then some (false) else (laws_eqIntS n t22 t20).bind fun r96 => (bif (!r96) then some (false) else laws_FnExactTravel_k1 n  aLegs0 aFrom1 aTo2 aAt3 aChange4 w118 (!(g119 == w118)) t20 t22)))
def laws_FnExactTravel_k3 (n : Nat)  (aLegs0 : List SLeg) (aFrom1 : Int) (aTo2 : Int) (aAt3 : Int) (aChange4 : Int) : Option Bool :=
  (laws_toLegS n aLegs0).bind fun r2 => (spec_Travel n r2 aFrom1 aTo2 aAt3 aChange4).bind fun r3 => (laws_toLegS n aLegs0).bind fun r4 => (impl_Travel n r4 aFrom1 aTo2 aAt3 aChange4).bind fun r5 => (laws_eqIntS n r5.1 r3.1).bind fun r6 => (bif (!r6) then some (false) else (bif (!(r5.2 == r3.2)) then some (false) else laws_FnExactTravel_k2 n  aLegs0 aFrom1 aTo2 aAt3 aChange4 r3.2 r5.2 r3.1 r4 r5.1))
def laws_FnExactTravel (n : Nat) (aLegs0 : List SLeg) (aFrom1 : Int) (aTo2 : Int) (aAt3 : Int) (aChange4 : Int) : Option Bool :=
  (laws_szLegS n aLegs0 (1048576 : Int)).bind fun r1 => (bif (decide (r1 < (0 : Int))) then some (true) else laws_FnExactTravel_k3 n  aLegs0 aFrom1 aTo2 aAt3 aChange4)
def rng (a b x : Int) : Prop := a ≤ x ∧ x ≤ b
def wfSLeg (x : SLeg) : Prop := rng (-9223372036854775808) 9223372036854775807 x.Service ∧ rng (-9223372036854775808) 9223372036854775807 x.From ∧ rng (-9223372036854775808) 9223372036854775807 x.To ∧ rng (-9223372036854775808) 9223372036854775807 x.Leaves ∧ rng (-9223372036854775808) 9223372036854775807 x.Comes ∧ rng (-9223372036854775808) 9223372036854775807 x.Room
end Go.Sm

section
set_option linter.unusedSimpArgs false
set_option linter.deprecated false
set_option linter.unusedSectionVars false
set_option linter.unusedVariables false
namespace Go.Sm
/-! ### Of the words that printed functions are made of -/
theorem w64_id {x : Int} (h1 : -9223372036854775808 ≤ x) (h2 : x ≤ 9223372036854775807) : w64 x = x := by
  show (let m := x % (2 ^ 64 : Int); if (true && decide ((2 : Int) ^ 63 ≤ m)) = true then m - 2 ^ 64 else m) = x
  simp only [Bool.true_and, decide_eq_true_eq]
  split <;> omega
theorem w64_rng (x : Int) : -9223372036854775808 ≤ w64 x ∧ w64 x ≤ 9223372036854775807 := by
  show -9223372036854775808 ≤ (let m := x % (2 ^ 64 : Int); if (true && decide ((2 : Int) ^ 63 ≤ m)) = true then m - 2 ^ 64 else m) ∧ (let m := x % (2 ^ 64 : Int); if (true && decide ((2 : Int) ^ 63 ≤ m)) = true then m - 2 ^ 64 else m) ≤ 9223372036854775807
  simp only [Bool.true_and, decide_eq_true_eq]
  split <;> omega
theorem chk_of {R : Type} {b : Bool} {x : Option R} (h : b = true) : chk b x = x := by rw [h]; rfl
theorem chk_true {R : Type} {x : Option R} : chk true x = x := rfl
theorem chk_dec {R : Type} {p : Prop} [Decidable p] {x : Option R} (h : p) : chk (decide p) x = x := chk_of (decide_eq_true h)
theorem ix_of {R : Type} {i : Int} {len : Nat} {x : Option R} (h0 : 0 ≤ i) (h1 : i < (len : Int)) : ix i len x = x := by
  unfold ix
  rw [decide_eq_true h0, decide_eq_true h1]
  rfl
theorem ix_nat {R : Type} {i len : Nat} {x : Option R} (h1 : i < len) : ix (i : Int) len x = x := ix_of (by omega) (by omega)
theorem bif_dec {α : Type} {p : Prop} [Decidable p] {x y : α} : (bif decide p then x else y) = if p then x else y := by
  by_cases h : p <;> simp [h]
theorem bif_not {α : Type} {b : Bool} {x y : α} : (bif !b then x else y) = bif b then y else x := by cases b <;> rfl
theorem bif_and {α : Type} {a b : Bool} {x y : α} : (bif a && b then x else y) = bif a then (bif b then x else y) else y := by cases a <;> rfl
theorem loopN_succ {X R : Type} (b : X → (X → Option R) → Option R) (m : Nat) (x : X) : loopN b (m + 1) x = b x (loopN b m) := rfl
/-- What holds of a loop: by what is left to go. -/
theorem loopN_ind {X R : Type} {b : X → (X → Option R) → Option R} (μ : X → Nat) (I : X → Prop) (Q : X → Option R → Prop)
    (h : ∀ x J, I x → (∀ y, I y → μ y < μ x → Q y (J y)) → Q x (b x J)) : ∀ n x, I x → μ x < n → Q x (loopN b n x)
  | 0, x, hi, hm => absurd hm (Nat.not_lt_zero _)
  | n + 1, x, hi, hm => h x (loopN b n) hi fun y hy hl => loopN_ind μ I Q h n y hy (by omega)
theorem getD_eq {α : Type} {l : List α} {i : Nat} {d : α} (h : i < l.length) : l.getD i d = l[i] := by
  simp [List.getD, h]
theorem w64_succ {k : Nat} (h : k < 9223372036854775807) : w64 ((k : Int) + 1) = ((k + 1 : Nat) : Int) := by
  rw [w64_id (by omega) (by omega)]
  rfl
theorem take_succ_getD {α : Type} {l : List α} {i : Nat} {d : α} (h : i < l.length) : l.take (i + 1) = l.take i ++ [l.getD i d] := by
  rw [List.take_succ, getD_eq h, List.getElem?_eq_getElem h]
  rfl
theorem drop_getD {α : Type} {l : List α} {i : Nat} {d : α} (h : i < l.length) : l.drop i = l.getD i d :: l.drop (i + 1) := by
  rw [getD_eq h]
  exact List.drop_eq_getElem_cons h
theorem bd_eq {α β : Type} (e : α) (f : α → β) : bd e f = f e := rfl
theorem bd_set {α β : Type} {Q : β → Prop} {F : List α → β} {p : List α} {i : Nat} {x : α} (h : ∀ l : List α, l.length = p.length → Q (F l)) : Q (bd (p.set i x) F) := h _ (by simp)
theorem bd_is {α β : Type} {Q : β → Prop} {F : α → β} {e : α} (h : ∀ v : α, v = e → Q (F v)) : Q (bd e F) := h _ rfl
theorem bd_val {α β : Type} {Q : β → Prop} {F : α → β} {e : α} (h : ∀ v : α, Q (F v)) : Q (bd e F) := h _
theorem chk_q {R : Type} {Q : Option R → Prop} {b : Bool} {x : Option R} (h : b = true) (hx : Q x) : Q (chk b x) := by rw [chk_of h]; exact hx
theorem ix_q {R : Type} {Q : Option R → Prop} {i : Int} {len : Nat} {x : Option R} (h0 : 0 ≤ i) (h1 : i < (len : Int)) (hx : Q x) : Q (ix i len x) := by rw [ix_of h0 h1]; exact hx
theorem bd_upd {α β : Type} {Q : β → Prop} {F : List α → β} {p : List α} {i : Nat} {x d : α} (hi : i < p.length) (h : ∀ l : List α, l.length = p.length → l.getD i d = x → (∀ j, j ≠ i → l.getD j d = p.getD j d) → Q (F l)) : Q (bd (p.set i x) F) :=
  h _ (by simp) (by simp [List.getD, hi]) (fun j hj => by simp [List.getD, List.getElem?_set, Ne.symm hj])
/-- A list written from the front. -/
theorem set_take {α : Type} {a : List α} {d : α} {m k : Nat} (h : k < a.length) (hm : m = a.length := by rfl) : (a.take k ++ (List.replicate m d).drop k).set k (a.getD k d) = a.take (k + 1) ++ (List.replicate m d).drop (k + 1) := by
  subst hm
  have h1 : (a.take k).length = k := by simp; omega
  rw [List.set_append_right _ _ (by omega), h1, Nat.sub_self, take_succ_getD h, List.append_assoc]
  congr 1
  rw [List.drop_eq_getElem_cons (by simp; exact h)]
  rfl
/-! ### Loops over 0 .. len, by what is left -/
/-- Steps k, k+1, .. told one after the other; J: what comes behind a step. -/
def forK {S R : Type} (step : Nat → S → (S → Option R) → Option R) (fin : S → Option R) : Nat → Nat → S → Option R
  | 0, _, s => fin s
  | m + 1, k, s => step k s fun s' => forK step fin m (k + 1) s'
theorem loop_forK {X S R : Type} {b : X → (X → Option R) → Option R} {enc : Nat → S → X} {len : Nat} {step : Nat → S → (S → Option R) → Option R} {fin : S → Option R} (I : Nat → S → Prop)
    (hstep : ∀ k s J J', k < len → I k s → (∀ s', I (k + 1) s' → J (enc (k + 1) s') = J' s') → b (enc k s) J = step k s J') (hfin : ∀ s J, I len s → b (enc len s) J = fin s) :
    ∀ m k s n, k + m = len → m < n → I k s → loopN b n (enc k s) = forK step fin m k s
  | 0, k, s, 0, _, h, _ => absurd h (Nat.lt_irrefl _)
  | 0, k, s, n + 1, hk, _, hi => by
    have hk : k = len := by omega
    subst hk
    exact hfin s _ hi
  | m + 1, k, s, 0, _, h, _ => absurd h (Nat.not_lt_zero _)
  | m + 1, k, s, n + 1, hk, hn, hi => by
    show b (enc k s) (loopN b n) = step k s fun s' => forK step fin m (k + 1) s'
    exact hstep k s _ _ (by omega) hi fun s' hi' => loop_forK I hstep hfin m (k + 1) s' n (by omega) (by omega) hi'
/-- The first k at which f answers; at none: z. -/
def scanK {R : Type} (f : Nat → Option (Option R)) (z : Option R) : Nat → Nat → Option R
  | 0, _ => z
  | m + 1, k => match f k with
    | some r => r
    | none => scanK f z m (k + 1)
theorem loop_scan {X R : Type} {b : X → (X → Option R) → Option R} {enc : Nat → X} {len : Nat} {f : Nat → Option (Option R)} {z : Option R}
    (hstep : ∀ k J, k < len → b (enc k) J = match f k with | some r => r | none => J (enc (k + 1))) (hfin : ∀ J, b (enc len) J = z) :
    ∀ m k n, k + m = len → m < n → loopN b n (enc k) = scanK f z m k
  | 0, k, 0, _, h => absurd h (Nat.lt_irrefl _)
  | 0, k, n + 1, hk, _ => by
    have hk : k = len := by omega
    subst hk
    exact hfin _
  | m + 1, k, 0, _, h => absurd h (Nat.not_lt_zero _)
  | m + 1, k, n + 1, hk, hn => by
    show b (enc k) (loopN b n) = _
    rw [hstep k _ (by omega)]
    unfold scanK
    cases f k with
    | some r => rfl
    | none => exact loop_scan hstep hfin m (k + 1) n (by omega) (by omega)
/-- Is p so of all of k, .. k + m - 1? -/
theorem scan_all {R : Type} {p : Nat → Bool} {r z : Option R} : ∀ m k, scanK (fun k => bif p k then none else some r) z m k = bif (List.range' k m).all p then z else r
  | 0, k => rfl
  | m + 1, k => by
    rw [scanK, List.range'_succ, List.all_cons]
    cases h : p k with
    | true => simp only [cond_true, Bool.true_and]; exact scan_all m (k + 1)
    | false => rfl
theorem scan_any {R : Type} {p : Nat → Bool} {r z : Option R} : ∀ m k, scanK (fun k => bif p k then some r else none) z m k = bif (List.range' k m).any p then r else z
  | 0, k => rfl
  | m + 1, k => by
    rw [scanK, List.range'_succ, List.any_cons]
    cases h : p k with
    | false => simp only [cond_false, Bool.false_or]; exact scan_any m (k + 1)
    | true => rfl
theorem mgetI_mputI {β : Type} (l : List (Int × β)) (n m : Int) (v : β) : mgetI (mputI l n v) m = if m = n then some v else mgetI l m := by
  unfold mgetI mputI
  induction l with
  | nil =>
    by_cases h : m = n <;> simp [h]
  | cons a l ih =>
    rw [List.findIdx?_cons]
    by_cases h : n = a.1
    · simp only [h, decide_true, if_true, Option.elim_some, List.set_cons_zero, List.find?_cons]
      by_cases h2 : m = a.1
      · simp [h2]
      · simp [h2]
    · simp only [h, decide_false, Bool.false_eq_true, if_false]
      cases hf : l.findIdx? (fun e => decide (n = e.1)) with
      | none =>
        rw [hf] at ih
        simp only [Option.elim_none] at ih
        simp only [Option.map_none, Option.elim_none, List.cons_append, List.find?_cons]
        by_cases h2 : m = a.1
        · have : m ≠ n := fun e => h (e ▸ h2)
          simp [h2]
          simp [h2] at this
          simp [this]
        · simp only [h2, decide_false]
          exact ih
      | some i =>
        rw [hf] at ih
        simp only [Option.elim_some] at ih
        simp only [Option.map_some, Option.elim_some, List.set_cons_succ, List.find?_cons]
        by_cases h2 : m = a.1
        · have : m ≠ n := fun e => h (e ▸ h2)
          simp [h2]
          simp [h2] at this
          simp [this]
        · simp only [h2, decide_false]
          exact ih
theorem mgetI_nil {β : Type} (m : Int) : mgetI ([] : List (Int × β)) m = none := rfl
/-! ### Chains of tests -/
theorem bif_and' {α : Type} {a b : Bool} {x y : α} : (bif a then (bif b then x else y) else y) = bif a && b then x else y := by cases a <;> rfl
theorem bif_or' {α : Type} {a b : Bool} {x y : α} : (bif a then y else (bif b then x else y)) = bif !a && b then x else y := by cases a <;> rfl
theorem bif_and2 {α : Type} {a b : Bool} {x y : α} : (bif a then (bif b then y else x) else y) = bif a && !b then x else y := by cases a <;> cases b <;> rfl
theorem bif_or2 {α : Type} {a b : Bool} {x y : α} : (bif a then y else (bif b then y else x)) = bif !a && !b then x else y := by cases a <;> cases b <;> rfl
theorem bif_some {α β : Type} {a : Bool} {x y : α} {f : α → Option β} : (bif a then some x else some y).bind f = bif a then f x else f y := by cases a <;> rfl
theorem bif_tf {a : Bool} : (bif a then some true else some false) = some a := by cases a <;> rfl
theorem bif_ft {a : Bool} : (bif a then some false else some true) = some (!a) := by cases a <;> rfl
theorem bif_sf {a b : Bool} : (bif a then some b else some false) = some (a && b) := by cases a <;> rfl
theorem all_range_succ {p : Nat → Bool} {k : Nat} : (List.range (k + 1)).all p = ((List.range k).all p && p k) := by
  rw [List.range_succ, List.all_append]
  simp
theorem any_range_succ {p : Nat → Bool} {k : Nat} : (List.range (k + 1)).any p = ((List.range k).any p || p k) := by
  rw [List.range_succ, List.any_append]
  simp
theorem all_range_not {p : Nat → Bool} {k m : Nat} (hk : k < m) (h : p k = false) : (List.range m).all p = false := by
  rw [Bool.eq_false_iff]
  intro e
  rw [List.all_eq_true] at e
  rw [e k (List.mem_range.2 hk)] at h
  cases h
theorem any_range_of {p : Nat → Bool} {k m : Nat} (hk : k < m) (h : p k = true) : (List.range m).any p = true := by
  rw [List.any_eq_true]
  exact ⟨k, List.mem_range.2 hk, h⟩
/-- A loop that looks at k = 0, 1, .. and leaves at the first that is not so. -/
theorem loop_all {R : Type} {b : Int → (Int → Option R) → Option R} {len : Nat} {p : Nat → Bool} {no yes : Option R} (hlen : len ≤ 9223372036854775807)
    (hstep : ∀ (k : Nat) (J : Int → Option R), k < len → (∀ j, j < k → p j = true) → b (k : Int) J = bif p k then J ((k + 1 : Nat) : Int) else no) (hfin : ∀ J, (∀ j, j < len → p j = true) → b (len : Int) J = yes) {n : Nat} (hn : len < n) :
    loopN b n (0 : Int) = bif (List.range len).all p then yes else no := by
  refine loopN_ind (fun x => len - x.toNat) (fun x => ∃ k : Nat, k ≤ len ∧ x = (k : Int) ∧ (List.range k).all p = true) (fun x r => r = bif (List.range len).all p then yes else no) ?_ n _ ⟨0, by omega, rfl, rfl⟩ (by simp; omega)
  rintro _ J ⟨k, hk, rfl, hb⟩ ih
  have hb' : ∀ j, j < k → p j = true := fun j hj => List.all_eq_true.1 hb j (List.mem_range.2 hj)
  by_cases h : k < len
  · rw [hstep k J h hb']
    cases hp : p k with
    | true => exact ih _ ⟨k + 1, h, rfl, by rw [all_range_succ, hb, hp]; rfl⟩ (by simp; omega)
    | false => rw [all_range_not h hp]; rfl
  · have : k = len := by omega
    subst this
    rw [hfin _ hb', hb]
    rfl
/-- The same, a state turned on the way (its invariant: I). -/
theorem loop_allS {S R : Type} {X : Type} {enc : Int → S → X} {b : X → (X → Option R) → Option R} {len : Nat} {p : Nat → Bool} {I : Nat → S → Prop} {no yes : Option R}
    (hstep : ∀ (k : Nat) (s : S) (J : X → Option R), k < len → I k s → (∀ j, j < k → p j = true) → ∃ s', (p k = true → I (k + 1) s') ∧ b (enc (k : Int) s) J = bif p k then J (enc ((k + 1 : Nat) : Int) s') else no) (hfin : ∀ s J, I len s → (∀ j, j < len → p j = true) → b (enc (len : Int) s) J = yes) {n : Nat} (hn : len < n) {s0 : S} (h0 : I 0 s0) :
    loopN b n (enc (0 : Int) s0) = bif (List.range len).all p then yes else no := by
  have key : ∀ m (k : Nat) (s : S) n, k + m = len → m < n → I k s → (List.range k).all p = true → loopN b n (enc (k : Int) s) = bif (List.range len).all p then yes else no := by
    intro m
    induction m with
    | zero =>
      intro k s n hk hn hi hb
      have hb' : ∀ j, j < k → p j = true := fun j hj => List.all_eq_true.1 hb j (List.mem_range.2 hj)
      have hk : k = len := by omega
      subst hk
      cases n with
      | zero => omega
      | succ n => rw [loopN_succ, hfin s _ hi hb', hb]; rfl
    | succ m ih =>
      intro k s n hk hn hi hb
      have hb' : ∀ j, j < k → p j = true := fun j hj => List.all_eq_true.1 hb j (List.mem_range.2 hj)
      cases n with
      | zero => omega
      | succ n =>
        rw [loopN_succ]
        obtain ⟨s', h1, h2⟩ := hstep k s (loopN b n) (by omega) hi hb'
        rw [h2]
        cases hp : p k with
        | true => exact ih (k + 1) s' n (by omega) (by omega) (h1 hp) (by rw [all_range_succ, hb, hp]; rfl)
        | false => rw [all_range_not (by omega : k < len) hp]; rfl
  exact key len 0 s0 n (by omega) hn h0 rfl
/-- A loop over 0 .. len that never leaves early; its state: I. -/
theorem loop_runS {S R : Type} {X : Type} {enc : Int → S → X} {b : X → (X → Option R) → Option R} {len : Nat} {I : Nat → S → Prop} {Q : Option R → Prop}
    (hstep : ∀ (k : Nat) (s : S) (J : X → Option R), k < len → I k s → ∃ s', I (k + 1) s' ∧ b (enc (k : Int) s) J = J (enc ((k + 1 : Nat) : Int) s')) (hfin : ∀ s J, I len s → Q (b (enc (len : Int) s) J)) {n : Nat} (hn : len < n) {s0 : S} (h0 : I 0 s0) :
    Q (loopN b n (enc (0 : Int) s0)) := by
  have key : ∀ m (k : Nat) (s : S) n, k + m = len → m < n → I k s → Q (loopN b n (enc (k : Int) s)) := by
    intro m
    induction m with
    | zero =>
      intro k s n hk hn hi
      have hk : k = len := by omega
      subst hk
      cases n with
      | zero => omega
      | succ n => rw [loopN_succ]; exact hfin s _ hi
    | succ m ih =>
      intro k s n hk hn hi
      cases n with
      | zero => omega
      | succ n =>
        rw [loopN_succ]
        obtain ⟨s', h1, h2⟩ := hstep k s (loopN b n) (by omega) hi
        rw [h2]
        exact ih (k + 1) s' n (by omega) (by omega) h1
  exact key len 0 s0 n (by omega) hn h0
/-! ### Sums over lists -/
def sumOf {α : Type} (f : α → Nat) : List α → Nat
  | [] => 0
  | a :: l => f a + sumOf f l
theorem sumOf_append {α : Type} (f : α → Nat) : ∀ a b : List α, sumOf f (a ++ b) = sumOf f a + sumOf f b
  | [], b => by simp [sumOf]
  | x :: a, b => by simp only [List.cons_append, sumOf, sumOf_append f a b]; omega
theorem sumOf_take_succ {α : Type} {f : α → Nat} {l : List α} {k : Nat} {d : α} (h : k < l.length) : sumOf f (l.take (k + 1)) = sumOf f (l.take k) + f (l.getD k d) := by
  rw [take_succ_getD (d := d) h, sumOf_append]
  simp [sumOf]
theorem sumOf_take_le {α : Type} (f : α → Nat) (l : List α) (k : Nat) : sumOf f (l.take k) ≤ sumOf f l := by
  have := sumOf_append f (l.take k) (l.drop k)
  rw [List.take_append_drop] at this
  omega
theorem sumOf_mem {α : Type} {f : α → Nat} {l : List α} {k : Nat} {d : α} (h : k < l.length) : f (l.getD k d) ≤ sumOf f l := by
  have h1 := sumOf_take_succ (f := f) (d := d) h
  have h2 := sumOf_take_le f l (k + 1)
  omega
theorem sumOf_lin {α : Type} {f g : α → Nat} {c s : Nat} (h : ∀ y, f y ≤ c * g y + s) : ∀ l : List α, sumOf f l ≤ c * sumOf g l + s * l.length
  | [] => by simp [sumOf]
  | a :: l => by
    have h1 := h a
    have h2 := sumOf_lin h l
    simp only [sumOf, List.length_cons, Nat.mul_add, Nat.mul_succ]
    omega
theorem sumOf_const {α : Type} (c : Nat) : ∀ l : List α, sumOf (fun _ => c) l = c * l.length
  | [] => by simp [sumOf]
  | a :: l => by simp only [sumOf, sumOf_const c l, List.length_cons, Nat.mul_succ]; omega
theorem getD_set {α : Type} {l : List α} {k : Nat} {x d : α} (h : k < l.length) : (l.set k x).getD k d = x := by simp [List.getD, h]
theorem getD_set_ne {α : Type} {l : List α} {k j : Nat} {x d : α} (h : j ≠ k) : (l.set k x).getD j d = l.getD j d := by simp [List.getD, List.getElem?_set, Ne.symm h]
theorem getD_mem {α : Type} {l : List α} {k : Nat} {d : α} (h : k < l.length) : l.getD k d ∈ l := by rw [getD_eq h]; exact List.getElem_mem h
theorem take_drop_set {α : Type} {a : List α} {d : α} {m k : Nat} {x : α} (h : k < a.length) (hm : m = a.length) (hx : x = a.getD k d) : (a.take k ++ (List.replicate m d).drop k).set k x = a.take (k + 1) ++ (List.replicate m d).drop (k + 1) := by
  subst hx
  exact set_take h hm
/-! ### The first that is so -/
def idxOf (p : Nat → Bool) (m : Nat) : Int := match (List.range m).find? p with
  | some k => (k : Int)
  | none => -1
theorem find_range_none {p : Nat → Bool} {m : Nat} (h : ∀ j, j < m → p j = false) : (List.range m).find? p = none := by
  rw [List.find?_eq_none]
  intro x hx
  rw [h x (List.mem_range.1 hx)]
  simp
theorem find_range_some {p : Nat → Bool} {m k : Nat} (hk : k < m) (hp : p k = true) (h : ∀ j, j < k → p j = false) : (List.range m).find? p = some k := by
  have e : m = k + (m - k) := by omega
  rw [e, List.range_add, List.find?_append, find_range_none h, Option.none_or]
  obtain ⟨r, hr⟩ : ∃ r, m - k = r + 1 := ⟨m - k - 1, by omega⟩
  rw [hr, List.range_succ_eq_map]
  simp [hp]
theorem idxOf_ge (p : Nat → Bool) (m : Nat) : decide (idxOf p m ≥ 0) = (List.range m).any p := by
  unfold idxOf
  cases h : (List.range m).find? p with
  | none =>
    rw [List.find?_eq_none] at h
    rw [show (List.range m).any p = false from by rw [List.any_eq_false]; exact h]
    rfl
  | some k =>
    have h1 := List.find?_some h
    rw [show (List.range m).any p = true from List.any_eq_true.2 ⟨k, List.mem_of_find?_eq_some h, h1⟩]
    exact decide_eq_true (by show (0 : Int) ≤ (k : Int); omega)
theorem idxOf_lt (p : Nat → Bool) (m : Nat) : decide (idxOf p m < 0) = !(List.range m).any p := by
  rw [← idxOf_ge]
  by_cases h : idxOf p m < 0
  · rw [decide_eq_true h, decide_eq_false (by omega)]; rfl
  · rw [decide_eq_false h, decide_eq_true (by omega)]; rfl
theorem find_range (p : Nat → Bool) : ∀ m, ((List.range m).find? p = none ∧ ∀ j, j < m → p j = false) ∨ ∃ k, (List.range m).find? p = some k ∧ k < m ∧ p k = true ∧ ∀ j, j < k → p j = false
  | 0 => .inl ⟨rfl, fun j hj => absurd hj (Nat.not_lt_zero _)⟩
  | m + 1 => by
    rcases find_range p m with ⟨h1, h2⟩ | ⟨k, h1, h2, h3, h4⟩
    · cases hp : p m with
      | true => exact .inr ⟨m, find_range_some (by omega) hp h2, by omega, hp, h2⟩
      | false =>
        have : ∀ j, j < m + 1 → p j = false := fun j hj => by
          by_cases e : j = m
          · rw [e]; exact hp
          · exact h2 j (by omega)
        exact .inl ⟨find_range_none this, this⟩
    · exact .inr ⟨k, find_range_some (by omega) h3 h4, by omega, h3, h4⟩
theorem idxOf_spec (p : Nat → Bool) (m : Nat) : (idxOf p m = -1 ∧ ∀ j, j < m → p j = false) ∨ ∃ k : Nat, idxOf p m = (k : Int) ∧ k < m ∧ p k = true ∧ ∀ j, j < k → p j = false := by
  unfold idxOf
  rcases find_range p m with ⟨h1, h2⟩ | ⟨k, h1, h2, h3, h4⟩
  · rw [h1]; exact .inl ⟨rfl, h2⟩
  · rw [h1]; exact .inr ⟨k, rfl, h2, h3, h4⟩
/-- A loop that looks at k = 0, 1, .. and leaves at the first that is so. -/
theorem loop_find {R : Type} {b : Int → (Int → Option R) → Option R} {len : Nat} {p : Nat → Bool} {yes : Nat → Option R} {no : Option R} (hlen : len ≤ 9223372036854775807)
    (hstep : ∀ (k : Nat) (J : Int → Option R), k < len → (∀ j, j < k → p j = false) → b (k : Int) J = bif p k then yes k else J ((k + 1 : Nat) : Int)) (hfin : ∀ J, (∀ j, j < len → p j = false) → b (len : Int) J = no) {n : Nat} (hn : len < n) :
    loopN b n (0 : Int) = match (List.range len).find? p with | some k => yes k | none => no := by
  refine loopN_ind (fun x => len - x.toNat) (fun x => ∃ k : Nat, k ≤ len ∧ x = (k : Int) ∧ ∀ j, j < k → p j = false) (fun x r => r = match (List.range len).find? p with | some k => yes k | none => no) ?_ n _ ⟨0, by omega, rfl, fun j hj => absurd hj (Nat.not_lt_zero _)⟩ (by simp; omega)
  rintro _ J ⟨k, hk, rfl, hb⟩ ih
  by_cases h : k < len
  · rw [hstep k J h hb]
    cases hp : p k with
    | false => exact ih _ ⟨k + 1, h, rfl, fun j hj => by
        by_cases e : j = k
        · rw [e]; exact hp
        · exact hb j (by omega)⟩ (by simp; omega)
    | true => rw [find_range_some h hp hb]; rfl
  · have : k = len := by omega
    subst this
    rw [hfin _ hb, find_range_none hb]
theorem loop_idx {b : Int → (Int → Option Int) → Option Int} {len : Nat} {p : Nat → Bool} (hlen : len ≤ 9223372036854775807)
    (hstep : ∀ (k : Nat) (J : Int → Option Int), k < len → (∀ j, j < k → p j = false) → b (k : Int) J = bif p k then some (k : Int) else J ((k + 1 : Nat) : Int)) (hfin : ∀ J, (∀ j, j < len → p j = false) → b (len : Int) J = some (-1)) {n : Nat} (hn : len < n) :
    loopN b n (0 : Int) = some (idxOf p len) := by
  rw [loop_find (yes := fun k => some (k : Int)) (no := some (-1)) hlen hstep hfin hn]
  unfold idxOf
  cases (List.range len).find? p <;> rfl
theorem byteAt_rng (s : ByteArray) (k : Nat) : 0 ≤ byteAt s k ∧ byteAt s k ≤ 255 := by
  unfold byteAt
  have := (s.data.getD k 0).toNat_lt
  omega
theorem range_any {α : Type} {l : List α} {d : α} {f : α → Bool} : (List.range l.length).any (fun k => f (l.getD k d)) = l.any f := by
  induction l with
  | nil => rfl
  | cons a l ih =>
    rw [List.length_cons, List.range_succ_eq_map, List.any_cons, List.any_map, List.any_cons, ← ih]
    rfl
theorem range_all {α : Type} {l : List α} {d : α} {f : α → Bool} : (List.range l.length).all (fun k => f (l.getD k d)) = l.all f := by
  induction l with
  | nil => rfl
  | cons a l ih =>
    rw [List.length_cons, List.range_succ_eq_map, List.all_cons, List.all_map, List.all_cons, ← ih]
    rfl
theorem all_congr_lt {p q : Nat → Bool} {m : Nat} (h : ∀ k, k < m → p k = q k) : (List.range m).all p = (List.range m).all q := by
  rw [Bool.eq_iff_iff, List.all_eq_true, List.all_eq_true]
  constructor
  · intro g x hx; rw [← h x (List.mem_range.1 hx)]; exact g x hx
  · intro g x hx; rw [h x (List.mem_range.1 hx)]; exact g x hx
theorem any_congr_lt {p q : Nat → Bool} {m : Nat} (h : ∀ k, k < m → p k = q k) : (List.range m).any p = (List.range m).any q := by
  rw [Bool.eq_iff_iff, List.any_eq_true, List.any_eq_true]
  constructor
  · rintro ⟨x, hx, g⟩; exact ⟨x, hx, by rw [← h x (List.mem_range.1 hx)]; exact g⟩
  · rintro ⟨x, hx, g⟩; exact ⟨x, hx, by rw [h x (List.mem_range.1 hx)]; exact g⟩
theorem guard_sz {w : Nat} {x : Option Bool} (h : w ≤ 1048576 → x = some true) : (bif decide ((if (w : Int) ≤ 1048576 then 1048576 - (w : Int) else -1) < 0) then some true else x) = some true := by
  by_cases c : (w : Int) ≤ 1048576
  · rw [if_pos c, decide_eq_false (by omega), cond_false]
    exact h (by omega)
  · rw [if_neg c]
    rfl
end Go.Sm
end

section
set_option linter.unusedSimpArgs false
set_option linter.deprecated false
set_option linter.unusedSectionVars false
set_option linter.unusedVariables false
set_option linter.unusedSimpArgs false
namespace Go.Sm
attribute [local irreducible] bd chk ix loopN
def w_LSLeg (a : List SLeg) : Nat := a.length
theorem laws_szLegS_ok {n : Nat} (a : List SLeg) {left : Int} (h : (a.length ≤ 9223372036854775807 ∧ ∀ y ∈ a, wfSLeg y)) (h0 : 0 ≤ left) (h1 : left ≤ 1048576) (hn : 1000000000 < n) : laws_szLegS n a left = some (if (w_LSLeg a : Int) ≤ left then left - (w_LSLeg a : Int) else -1) := by
  have hw : w_LSLeg a = a.length := rfl
  unfold laws_szLegS
  rw [w64_id (by have := h.1; omega) (by omega), bd_eq, bif_dec]
  by_cases c : (a.length : Int) ≤ left
  · rw [if_neg (by omega), if_pos (by omega)]
    congr 1
  · rw [if_pos (by omega), if_neg (by omega)]
theorem laws_toLeg_ok (n : Nat) (a : SLeg) : laws_toLeg n a = some a := by simp [laws_toLeg]
theorem laws_toLegS_ok {n : Nat} (a : List SLeg) (hb : w_LSLeg a ≤ 100000000) (hn : 1000000000 < n) : laws_toLegS n a = some a := by
  have hw0 : a.length ≤ 100000000 := by have hw : w_LSLeg a = a.length := rfl; omega
  unfold laws_toLegS
  rw [chk_dec (by omega), chk_dec (by omega), chk_dec (by omega)]
  refine loopN_ind (fun x => a.length - x.1.toNat) (fun x => ∃ k : Nat, k ≤ a.length ∧ x = ((k : Int), a.take k ++ (List.replicate a.length dSLeg).drop k)) (fun x r => r = some a) ?_ n _ ⟨0, by omega, by simp⟩ (by simp; omega)
  rintro _ J ⟨k, hk, rfl⟩ ih
  unfold laws_toLegS_L3
  dsimp only
  have hl : (a.take k ++ (List.replicate a.length dSLeg).drop k).length = a.length := by simp; omega
  by_cases h : k < a.length
  · have g := ih (((k + 1 : Nat) : Int), a.take (k + 1) ++ (List.replicate a.length dSLeg).drop (k + 1)) ⟨k + 1, h, rfl⟩ (by simp; omega)
    have hk2 : k < (a.take k ++ (List.replicate a.length dSLeg).drop k).length := by omega
    simp only [Int.ofNat_lt, h, hk2, decide_true, cond_true, ix_nat h, ix_nat hk2, chk_of, bd_eq, Option.bind_some, Int.toNat_natCast, w64_succ (show k < 9223372036854775807 by omega), laws_toLeg_ok]
    rw [take_drop_set (d := dSLeg) h rfl rfl]
    exact g
  · have : k = a.length := by omega
    subst this
    simp
def w_LInt (a : List Int) : Nat := a.length
theorem laws_eqIntS_ok {n : Nat} (a : List Int) (hb : w_LInt a ≤ 100000000) (hn : 1000000000 < n) : laws_eqIntS n a a = some true := by
  have hw0 : a.length ≤ 100000000 := by have hw : w_LInt a = a.length := rfl; omega
  unfold laws_eqIntS
  simp only [decide_true, Bool.not_true, cond_false]
  refine loopN_ind (fun x => a.length - x.toNat) (fun x => ∃ k : Nat, k ≤ a.length ∧ x = (k : Int)) (fun x r => r = some true) ?_ n _ ⟨0, by omega, rfl⟩ (by simp; omega)
  rintro _ J ⟨k, hk, rfl⟩ ih
  unfold laws_eqIntS_L4
  by_cases h : k < a.length
  · have g := ih ((k + 1 : Nat) : Int) ⟨k + 1, h, rfl⟩ (by simp; omega)
    simp only [Int.ofNat_lt, h, decide_true, cond_true, ix_nat h, Bool.not_true, cond_false, bd_eq, Option.bind_some, beq_self_eq_true, Int.toNat_natCast, w64_succ (show k < 9223372036854775807 by omega)]
    exact g
  · simp [h]
theorem laws_eqLeg_ok (n : Nat) (a : SLeg) : laws_eqLeg n a a = some true := by simp [laws_eqLeg, laws_eqLeg_k0]
theorem laws_eqLegS_ok {n : Nat} (a : List SLeg) (hb : w_LSLeg a ≤ 100000000) (hn : 1000000000 < n) : laws_eqLegS n a a = some true := by
  have hw0 : a.length ≤ 100000000 := by have hw : w_LSLeg a = a.length := rfl; omega
  unfold laws_eqLegS
  simp only [decide_true, Bool.not_true, cond_false]
  refine loopN_ind (fun x => a.length - x.toNat) (fun x => ∃ k : Nat, k ≤ a.length ∧ x = (k : Int)) (fun x r => r = some true) ?_ n _ ⟨0, by omega, rfl⟩ (by simp; omega)
  rintro _ J ⟨k, hk, rfl⟩ ih
  unfold laws_eqLegS_L4
  by_cases h : k < a.length
  · have g := ih ((k + 1 : Nat) : Int) ⟨k + 1, h, rfl⟩ (by simp; omega)
    simp only [Int.ofNat_lt, h, decide_true, cond_true, ix_nat h, Bool.not_true, cond_false, bd_eq, Option.bind_some, beq_self_eq_true, Int.toNat_natCast, w64_succ (show k < 9223372036854775807 by omega), laws_eqLeg_ok]
    exact g
  · simp [h]
def Mk_LSLeg (n : Nat) (k : Int) (a x : SLeg) : Prop := x.Service = k ∧ x.From = k + 1 ∧ x.To = k + 2 ∧ x.Leaves = k + 3 ∧ x.Comes = k + 4 ∧ x.Room = k + 5
def n_LSLeg (a : List SLeg) : Nat := sumOf (fun y => 6) a
theorem n_LSLeg_eq (a : List SLeg) : n_LSLeg a = 6 * a.length := sumOf_const 6 a
theorem n_LSLeg_le (a : List SLeg) : n_LSLeg a ≤ 6 * w_LSLeg a := by
  have h := n_LSLeg_eq a
  have h2 : w_LSLeg a = a.length := rfl
  omega
theorem laws_markLegS_i {n : Nat} (a : List SLeg) (k0 : Int) (hk0 : 0 ≤ k0) (hb : k0 + ((n_LSLeg a : Nat) : Int) ≤ 900000000) (hw : w_LSLeg a ≤ 100000000) (hn : 1000000000 < n) :
    ∃ p : List SLeg, laws_markLegS n a k0 = some (k0 + ((n_LSLeg a : Nat) : Int), p) ∧ p.length = a.length ∧ ∀ i, i < a.length → Mk_LSLeg n (k0 + ((sumOf (fun y => 6) (a.take i) : Nat) : Int)) (a.getD i dSLeg) (p.getD i dSLeg) := by
  have hw0 : a.length ≤ 100000000 := by have hw : w_LSLeg a = a.length := rfl; omega
  have hnA : n_LSLeg a = sumOf (fun y => 6) a := rfl
  unfold laws_markLegS
  refine loopN_ind (fun x => a.length - x.2.1.toNat) (fun x => ∃ (k : Nat) (p : List SLeg), k ≤ a.length ∧ x = (k0 + ((sumOf (fun y => 6) (a.take k) : Nat) : Int), (k : Int), p) ∧ p.length = a.length ∧
      (∀ i, i < k → Mk_LSLeg n (k0 + ((sumOf (fun y => 6) (a.take i) : Nat) : Int)) (a.getD i dSLeg) (p.getD i dSLeg)) ∧ ∀ i, k ≤ i → p.getD i dSLeg = a.getD i dSLeg)
    (fun x r => ∃ p : List SLeg, r = some (k0 + ((n_LSLeg a : Nat) : Int), p) ∧ p.length = a.length ∧ ∀ i, i < a.length → Mk_LSLeg n (k0 + ((sumOf (fun y => 6) (a.take i) : Nat) : Int)) (a.getD i dSLeg) (p.getD i dSLeg)) ?_ n _ ⟨0, a, by omega, by simp [sumOf], rfl, by omega, fun _ _ => rfl⟩ (by simp; omega)
  rintro _ J ⟨k, p, hk, rfl, hp, hm, hrest⟩ ih
  by_cases h : k < a.length
  · have h' : k < p.length := by omega
    have s1 := sumOf_take_succ (f := fun y => 6) (d := dSLeg) h
    have s2 := sumOf_take_le (fun y => 6) a (k + 1)
    try simp only at s1
    obtain ⟨kk, hkk⟩ : ∃ kk : Int, kk = k0 + ((sumOf (fun y => 6) (a.take k) : Nat) : Int) := ⟨_, rfl⟩
    have hpk := hrest k (Nat.le_refl _)
    have step : ∀ (K : Int → List SLeg → Option (Int × List SLeg)) (J : Int → Int → List SLeg → Option (Int × List SLeg)), laws_markLegS_L2 n K J kk (k : Int) p = J (kk + 6) ((k : Int) + 1) (p.set k (⟨(kk), (kk + 1), (kk + 2), (kk + 3), (kk + 4), (kk + 5)⟩ : SLeg)) := fun K J => by
      unfold laws_markLegS_L2
      simp (disch := omega) only [laws_markLegS_k0, Int.ofNat_lt, h', decide_true, cond_true, ix_nat h', List.length_set, chk_of, chk_true, bd_eq, getD_set h', List.set_set, hpk, Int.toNat_natCast, w64_id, Int.add_assoc, Int.reduceAdd, Option.bind_some]
    dsimp only
    rw [← hkk]
    refine (congrArg (fun z => ∃ q : List SLeg, z = some (k0 + ((n_LSLeg a : Nat) : Int), q) ∧ q.length = a.length ∧ ∀ i, i < a.length → Mk_LSLeg n (k0 + ((sumOf (fun y => 6) (a.take i) : Nat) : Int)) (a.getD i dSLeg) (q.getD i dSLeg)) (step _ _)).mpr ?_
    refine ih _ ⟨k + 1, _, h, Prod.ext (by dsimp only; omega) (Prod.ext (by dsimp only; omega) rfl), by simpa using hp, fun i hi => ?_, fun i hi => ?_⟩ (by dsimp only; omega)
    · by_cases e : i = k
      · subst e
        rw [getD_set h', ← hkk]
        unfold Mk_LSLeg
        exact ⟨rfl, rfl, rfl, rfl, rfl, rfl⟩
      · rw [getD_set_ne e]
        exact hm i (by omega)
    · rw [getD_set_ne (by omega)]
      exact hrest i (by omega)
  · have : k = a.length := by omega
    subst this
    unfold laws_markLegS_L2
    simp only [hp, Int.lt_irrefl, decide_false, cond_false]
    rw [List.take_length]
    exact ⟨p, rfl, hp, hm⟩
theorem laws_markLegS_ok {n : Nat} (a : List SLeg) (k0 : Int) (hk0 : 0 ≤ k0) (hb : k0 + ((n_LSLeg a : Nat) : Int) ≤ 900000000) (hw : w_LSLeg a ≤ 100000000) (hn : 1000000000 < n) : ∃ p : List SLeg, laws_markLegS n a k0 = some (k0 + ((n_LSLeg a : Nat) : Int), p) := by
  obtain ⟨p, h1, h2, h3⟩ := laws_markLegS_i (n := n) a k0 hk0 hb hw hn
  exact ⟨p, h1⟩
def Mk_LInt (n : Nat) (k : Int) (a x : Int) : Prop := x = k
def n_LInt (a : List Int) : Nat := sumOf (fun y => 1) a
theorem n_LInt_eq (a : List Int) : n_LInt a = 1 * a.length := sumOf_const 1 a
theorem n_LInt_le (a : List Int) : n_LInt a ≤ 1 * w_LInt a := by
  have h := n_LInt_eq a
  have h2 : w_LInt a = a.length := rfl
  omega
theorem laws_markIntS_i {n : Nat} (a : List Int) (k0 : Int) (hk0 : 0 ≤ k0) (hb : k0 + ((n_LInt a : Nat) : Int) ≤ 900000000) (hw : w_LInt a ≤ 100000000) (hn : 1000000000 < n) :
    ∃ p : List Int, laws_markIntS n a k0 = some (k0 + ((n_LInt a : Nat) : Int), p) ∧ p.length = a.length ∧ ∀ i, i < a.length → Mk_LInt n (k0 + ((sumOf (fun y => 1) (a.take i) : Nat) : Int)) (a.getD i (0 : Int)) (p.getD i (0 : Int)) := by
  have hw0 : a.length ≤ 100000000 := by have hw : w_LInt a = a.length := rfl; omega
  have hnA : n_LInt a = sumOf (fun y => 1) a := rfl
  unfold laws_markIntS
  refine loopN_ind (fun x => a.length - x.2.1.toNat) (fun x => ∃ (k : Nat) (p : List Int), k ≤ a.length ∧ x = (k0 + ((sumOf (fun y => 1) (a.take k) : Nat) : Int), (k : Int), p) ∧ p.length = a.length ∧
      (∀ i, i < k → Mk_LInt n (k0 + ((sumOf (fun y => 1) (a.take i) : Nat) : Int)) (a.getD i (0 : Int)) (p.getD i (0 : Int))) ∧ ∀ i, k ≤ i → p.getD i (0 : Int) = a.getD i (0 : Int))
    (fun x r => ∃ p : List Int, r = some (k0 + ((n_LInt a : Nat) : Int), p) ∧ p.length = a.length ∧ ∀ i, i < a.length → Mk_LInt n (k0 + ((sumOf (fun y => 1) (a.take i) : Nat) : Int)) (a.getD i (0 : Int)) (p.getD i (0 : Int))) ?_ n _ ⟨0, a, by omega, by simp [sumOf], rfl, by omega, fun _ _ => rfl⟩ (by simp; omega)
  rintro _ J ⟨k, p, hk, rfl, hp, hm, hrest⟩ ih
  by_cases h : k < a.length
  · have h' : k < p.length := by omega
    have s1 := sumOf_take_succ (f := fun y => 1) (d := (0 : Int)) h
    have s2 := sumOf_take_le (fun y => 1) a (k + 1)
    try simp only at s1
    obtain ⟨kk, hkk⟩ : ∃ kk : Int, kk = k0 + ((sumOf (fun y => 1) (a.take k) : Nat) : Int) := ⟨_, rfl⟩
    have hpk := hrest k (Nat.le_refl _)
    have step : ∀ (K : Int → List Int → Option (Int × List Int)) (J : Int → Int → List Int → Option (Int × List Int)), laws_markIntS_L2 n K J kk (k : Int) p = J (kk + 1) ((k : Int) + 1) (p.set k (kk)) := fun K J => by
      unfold laws_markIntS_L2
      simp (disch := omega) only [Int.ofNat_lt, h', decide_true, cond_true, ix_nat h', List.length_set, chk_of, chk_true, bd_eq, getD_set h', List.set_set, hpk, Int.toNat_natCast, w64_id, Int.add_assoc, Int.reduceAdd, Option.bind_some]
    dsimp only
    rw [← hkk]
    refine (congrArg (fun z => ∃ q : List Int, z = some (k0 + ((n_LInt a : Nat) : Int), q) ∧ q.length = a.length ∧ ∀ i, i < a.length → Mk_LInt n (k0 + ((sumOf (fun y => 1) (a.take i) : Nat) : Int)) (a.getD i (0 : Int)) (q.getD i (0 : Int))) (step _ _)).mpr ?_
    refine ih _ ⟨k + 1, _, h, Prod.ext (by dsimp only; omega) (Prod.ext (by dsimp only; omega) rfl), by simpa using hp, fun i hi => ?_, fun i hi => ?_⟩ (by dsimp only; omega)
    · by_cases e : i = k
      · subst e
        rw [getD_set h', ← hkk]
        unfold Mk_LInt
        exact rfl
      · rw [getD_set_ne e]
        exact hm i (by omega)
    · rw [getD_set_ne (by omega)]
      exact hrest i (by omega)
  · have : k = a.length := by omega
    subst this
    unfold laws_markIntS_L2
    simp only [hp, Int.lt_irrefl, decide_false, cond_false]
    rw [List.take_length]
    exact ⟨p, rfl, hp, hm⟩
theorem laws_heldIntS_i {n : Nat} (a p : List Int) (hp : p.length = a.length) (k0 : Int) (hk0 : 0 ≤ k0) (hb : k0 + ((n_LInt a : Nat) : Int) ≤ 900000000) (hw : w_LInt a ≤ 100000000) (hn : 1000000000 < n)
    (hm : ∀ i, i < a.length → Mk_LInt n (k0 + ((sumOf (fun y => 1) (a.take i) : Nat) : Int)) (a.getD i (0 : Int)) (p.getD i (0 : Int))) : laws_heldIntS n p k0 = some (k0 + ((n_LInt a : Nat) : Int)) := by
  have hw0 : a.length ≤ 100000000 := by have hw : w_LInt a = a.length := rfl; omega
  have hnA : n_LInt a = sumOf (fun y => 1) a := rfl
  unfold laws_heldIntS
  refine loopN_ind (fun x => a.length - x.2.toNat) (fun x => ∃ (k : Nat), k ≤ a.length ∧ x = (k0 + ((sumOf (fun y => 1) (a.take k) : Nat) : Int), (k : Int)))
    (fun x r => r = some (k0 + ((n_LInt a : Nat) : Int))) ?_ n _ ⟨0, by omega, by simp [sumOf]⟩ (by simp; omega)
  rintro _ J ⟨k, hk, rfl⟩ ih
  by_cases h : k < a.length
  · have h' : k < p.length := by omega
    have s1 := sumOf_take_succ (f := fun y => 1) (d := (0 : Int)) h
    have s2 := sumOf_take_le (fun y => 1) a (k + 1)
    try simp only at s1
    have hmk := hm k h
    unfold Mk_LInt at hmk
    obtain ⟨kk, hkk⟩ : ∃ kk : Int, kk = k0 + ((sumOf (fun y => 1) (a.take k) : Nat) : Int) := ⟨_, rfl⟩
    rw [← hkk] at hmk
    try simp (disch := omega) only [Int.add_assoc, Int.reduceAdd] at hmk
    have e0 := hmk
    have step : ∀ (K K2 : Int → Option Int) (J : Int → Int → Option Int), laws_heldIntS_L2 n K K2 J p kk (k : Int) = J (kk + 1) ((k : Int) + 1) := fun K K2 J => by
      unfold laws_heldIntS_L2
      simp (disch := omega) only [Int.ofNat_lt, h', decide_true, cond_true, ix_nat h', bd_eq, Int.toNat_natCast, w64_id, Int.add_assoc, Int.reduceAdd, Option.bind_some, Bool.not_true, cond_false, beq_self_eq_true, decide_eq_false_iff_not, Int.not_lt, bif_dec, if_neg, e0]
    dsimp only
    rw [← hkk]
    refine (step _ _ _).trans ?_
    exact ih (_, _) ⟨k + 1, h, Prod.ext (by dsimp only; omega) (by dsimp only; omega)⟩ (by dsimp only; omega)
  · have : k = a.length := by omega
    subst this
    unfold laws_heldIntS_L2
    simp only [hp, Int.lt_irrefl, decide_false, cond_false]
    rw [List.take_length]
    rfl
theorem laws_markIntS_ok {n : Nat} (a : List Int) (k0 : Int) (hk0 : 0 ≤ k0) (hb : k0 + ((n_LInt a : Nat) : Int) ≤ 900000000) (hw : w_LInt a ≤ 100000000) (hn : 1000000000 < n) : ∃ p : List Int, laws_markIntS n a k0 = some (k0 + ((n_LInt a : Nat) : Int), p) ∧ laws_heldIntS n p k0 = some (k0 + ((n_LInt a : Nat) : Int)) := by
  obtain ⟨p, h1, h2, h3⟩ := laws_markIntS_i (n := n) a k0 hk0 hb hw hn
  exact ⟨p, h1, laws_heldIntS_i a p h2 k0 hk0 hb hw hn h3⟩
end Go.Sm
end

section
set_option linter.unusedSimpArgs false
set_option linter.deprecated false
set_option linter.unusedSectionVars false
set_option linter.unusedVariables false
set_option linter.unusedSimpArgs false
namespace Go.Sm
attribute [local irreducible] bd chk ix loopN
theorem in_spec4 (n : Nat) (x a b : Int) : spec_l1In n x a b = some (decide (a ≤ x ∧ x ≤ b)) := by
  unfold spec_l1In
  by_cases h0 : a ≤ x <;> by_cases h1 : x ≤ b <;> simp [h0, h1]
theorem in_impl4 (n : Nat) (x a b : Int) : impl_in n x a b = some (decide (a ≤ x ∧ x ≤ b)) := by
  unfold impl_in
  by_cases h0 : a ≤ x <;> by_cases h1 : x ≤ b <;> simp [h0, h1]
/-! ### Legs in order -/
def lastS (l : List SLeg) (s : Int) : Option SLeg := l.reverse.find? fun p => decide (p.Service = s)
theorem lastS_succ {l : List SLeg} {k : Nat} (h : k < l.length) (s : Int) : lastS (l.take (k + 1)) s = if (l.getD k dSLeg).Service = s then some (l.getD k dSLeg) else lastS (l.take k) s := by
  unfold lastS
  rw [take_succ_getD (d := dSLeg) h, List.reverse_append, List.reverse_singleton, List.singleton_append, List.find?_cons]
  by_cases e : (l.getD k dSLeg).Service = s <;> simp only [e, decide_true, decide_false, if_true, if_false]
def legBase (x : SLeg) : Bool :=
  decide (1 ≤ x.Service ∧ x.Service ≤ 100) && (decide (0 ≤ x.From ∧ x.From ≤ 19) && (decide (0 ≤ x.To ∧ x.To ≤ 19) && (!decide (x.From = x.To) && (decide (0 ≤ x.Leaves ∧ x.Leaves ≤ 100000000) &&
    (decide (0 ≤ x.Comes ∧ x.Comes ≤ 100000000) && (!decide (x.Leaves ≥ x.Comes) && decide (0 ≤ x.Room ∧ x.Room ≤ 1000000)))))))
def legJoin (q : Option SLeg) (x : SLeg) : Bool := match q with
  | none => true
  | some p => decide (p.To = x.From) && !decide (p.Comes > x.Leaves)
def legOk (l : List SLeg) (k : Nat) : Bool := legBase (l.getD k dSLeg) && legJoin (lastS (l.take k) (l.getD k dSLeg).Service) (l.getD k dSLeg)
def legsAll (l : List SLeg) : Bool := (List.range l.length).all (legOk l)
def legsOk (l : List SLeg) : Bool := decide (l.length ≤ 60) && legsAll l
theorem legs_back {R : Type} {n : Nat} (kx : Option R) (kxr : Bool → Option R) (l : List SLeg) (i : Int) (x : SLeg) (hn : 1000000000 < n) (hl : l.length ≤ 1048576) : ∀ j, j ≤ l.length → ∀ m, j < m →
    loopN (fun (y : Int) J' => spec_LegsOk_L8 n kx (fun t => kxr t) J' l i y x) m ((j : Int) - 1) = bif legJoin (lastS (l.take j) x.Service) x then kx else kxr false := by
  intro j
  induction j with
  | zero =>
    intro _ m hm
    cases m with
    | zero => omega
    | succ m =>
      rw [loopN_succ]
      unfold spec_LegsOk_L8
      rfl
  | succ j ih =>
    intro hj m hm
    cases m with
    | zero => omega
    | succ m =>
      rw [loopN_succ]
      have ihm := ih (by omega) m (by omega)
      generalize loopN (fun (y : Int) J' => spec_LegsOk_L8 n kx (fun t => kxr t) J' l i y x) m = J at ihm ⊢
      unfold spec_LegsOk_L8 spec_LegsOk_k0
      have e : (((j + 1 : Nat) : Int) - 1) = (j : Int) := by omega
      have h0 : (j : Int) ≥ 0 := by omega
      rw [e, lastS_succ (by omega)]
      have e2 : w64 ((j : Int) - 1) = (j : Int) - 1 := w64_id (by omega) (by omega)
      simp only [h0, decide_true, cond_true, ix_nat (show j < l.length by omega), bd_eq, Int.toNat_natCast, e2, ihm]
      by_cases hs : (l.getD j dSLeg).Service = x.Service
      · simp only [hs, decide_true, cond_true, if_true, legJoin, bif_not, bif_and2]
      · simp only [hs, decide_false, cond_false, if_false]
theorem legs_spec {n : Nat} (l : List SLeg) (hl : l.length ≤ 1048576) (hn : 1000000000 < n) : spec_LegsOk n l = some (legsOk l) := by
  unfold spec_LegsOk
  rw [loop_all (p := legOk l) (len := l.length) (no := some false) (yes := some (decide ((l.length : Int) ≤ 60))) (by omega) (fun k J h _ => ?_) (fun J _ => ?_) (by omega)]
  · rw [bif_sf, legsOk, legsAll, Bool.and_comm]
    congr 2
    simp only [decide_eq_decide]
    omega
  · unfold spec_LegsOk_L2 spec_LegsOk_k1 spec_l1Minute
    simp only [Int.ofNat_lt, h, decide_true, cond_true, ix_nat h, bd_eq, Int.toNat_natCast, in_spec4, Option.bind_some]
    have e1 : w64 ((k : Int) - 1) = (k : Int) - 1 := w64_id (by omega) (by omega)
    have e2 : w64 ((k : Int) + 1) = ((k + 1 : Nat) : Int) := w64_succ (by omega)
    rw [e1, e2]
    simp only [legs_back _ (fun t => some t) l (k : Int) _ hn hl k (by omega) n (by omega)]
    simp only [bif_not, bif_and', bif_or', legOk, legBase, Bool.and_assoc, Bool.not_not]
  · unfold spec_LegsOk_L2
    simp
theorem legs_impl {n : Nat} (l : List SLeg) (hl : l.length ≤ 1048576) (hn : 1000000000 < n) : impl_LegsOk n l = some (legsOk l) := by
  unfold impl_LegsOk
  by_cases h6 : l.length ≤ 60
  · have e : decide ((l.length : Int) > 60) = false := decide_eq_false (by omega)
    rw [e, cond_false]
    have := loop_allS (S := List (Int × SLeg)) (X := Int × List (Int × SLeg)) (enc := fun k s => (k, s)) (b := fun x J' => impl_LegsOk_L5 n (some true) (fun t81 => some t81) (fun t82 t83 => J' (t82, t83)) l (l.length : Int) x.1 x.2) (len := l.length) (p := legOk l)
      (I := fun k s => ∀ q, mgetI s q = lastS (l.take k) q) (no := some false) (yes := some true) (fun k s J h hi _ => ?_) (fun s J _ _ => ?_) (n := n) (by omega) (s0 := []) (fun q => by simp [lastS, mgetI])
    · refine this.trans ?_
      rw [bif_tf, legsOk, decide_eq_true h6, Bool.true_and, legsAll]
    · refine ⟨mputI s (l.getD k dSLeg).Service (l.getD k dSLeg), fun _ q => ?_, ?_⟩
      · rw [mgetI_mputI, lastS_succ h, hi q]
        by_cases hq : q = (l.getD k dSLeg).Service
        · simp only [hq, if_true]
        · simp only [hq, Ne.symm hq, if_false]
      · unfold impl_LegsOk_L5 impl_LegsOk_k1 impl_LegsOk_k0 impl_linePort impl_minuteOk
        rw [legOk]
        have hm := hi (l.getD k dSLeg).Service
        cases hq : lastS (l.take k) (l.getD k dSLeg).Service with
        | none =>
          rw [hq] at hm
          simp only [Int.ofNat_lt, h, decide_true, cond_true, ix_nat h, bd_eq, Int.toNat_natCast, in_impl4, Option.bind_some, w64_succ (show k < 9223372036854775807 by omega), hm, Option.isSome_none, cond_false, legJoin, legBase, bif_not, bif_and', bif_or', bif_and2, bif_or2, Bool.not_not, Bool.and_assoc, Bool.and_true, Bool.true_and, Bool.false_and, Bool.not_false, Bool.not_true]
        | some p =>
          rw [hq] at hm
          simp only [Int.ofNat_lt, h, decide_true, cond_true, ix_nat h, bd_eq, Int.toNat_natCast, in_impl4, Option.bind_some, w64_succ (show k < 9223372036854775807 by omega), hm, Option.isSome_some, Option.getD_some, legJoin, legBase, bif_not, bif_and', bif_or', bif_and2, bif_or2, Bool.not_not, Bool.and_assoc, Bool.and_true, Bool.true_and, Bool.false_and, Bool.not_false, Bool.not_true]
    · unfold impl_LegsOk_L5
      simp
  · have e : decide ((l.length : Int) > 60) = true := decide_eq_true (by omega)
    rw [e, cond_true, legsOk, decide_eq_false h6]
    rfl
/-! ### A way -/
/-! ### Loops that never leave early, told by a fold -/
def foldN {S : Type} (f : Nat → S → S) : Nat → S → S
  | 0, s => s
  | k + 1, s => f k (foldN f k s)
theorem foldN_ind {S : Type} {f : Nat → S → S} {s0 : S} {len : Nat} (I : Nat → S → Prop) (h0 : I 0 s0) (h : ∀ k s, k < len → I k s → I (k + 1) (f k s)) : ∀ k, k ≤ len → I k (foldN f k s0)
  | 0, _ => h0
  | k + 1, hk => h k _ (by omega) (foldN_ind I h0 h k (by omega))
theorem loop_fold {S R X : Type} {enc : Int → S → X} {b : X → (X → Option R) → Option R} {len : Nat} {f : Nat → S → S} {fin : S → Option R} {s0 : S} (I : Nat → S → Prop)
    (hstep : ∀ (k : Nat) (s : S) (J : X → Option R), k < len → I k s → I (k + 1) (f k s) ∧ b (enc (k : Int) s) J = J (enc ((k + 1 : Nat) : Int) (f k s))) (hfin : ∀ s J, I len s → b (enc (len : Int) s) J = fin s)
    {n : Nat} (hn : len < n) (h0 : I 0 s0) : loopN b n (enc (0 : Int) s0) = fin (foldN f len s0) :=
  loop_runS (I := fun k s => I k s ∧ s = foldN f k s0) (Q := fun r => r = fin (foldN f len s0))
    (fun k s J hk hi => ⟨f k s, ⟨(hstep k s J hk hi.1).1, by rw [hi.2]; rfl⟩, (hstep k s J hk hi.1).2⟩) (fun s J hi => by rw [hfin s J hi.1, hi.2]) hn ⟨h0, rfl⟩
/-! ### Legs that follow -/
def lgo (ch : Int) (p x : SLeg) : Bool := decide (p.To = x.From) && decide (p.Comes + (if p.Service = x.Service then 0 else ch) ≤ x.Leaves)
def lst (fr at_ : Int) (x : SLeg) : Bool := decide (x.From = fr) && decide (at_ ≤ x.Leaves)
structure LegB (x : SLeg) : Prop where
  s : 1 ≤ x.Service ∧ x.Service ≤ 100
  f : 0 ≤ x.From ∧ x.From ≤ 19
  t : 0 ≤ x.To ∧ x.To ≤ 19
  ne : x.From ≠ x.To
  l : 0 ≤ x.Leaves ∧ x.Leaves ≤ 100000000
  c : 0 ≤ x.Comes ∧ x.Comes ≤ 100000000
  lt : x.Leaves < x.Comes
theorem legB_of {x : SLeg} (h : legBase x = true) : LegB x := by
  simp only [legBase, Bool.and_eq_true, decide_eq_true_eq, Bool.not_eq_true', decide_eq_false_iff_not] at h
  obtain ⟨h1, h2, h3, h4, h5, h6, h7, h8⟩ := h
  exact ⟨h1, h2, h3, h4, h5, h6, by omega⟩
theorem legs_at {l : List SLeg} (h : legsOk l = true) : l.length ≤ 60 ∧ ∀ k, k < l.length → LegB (l.getD k dSLeg) := by
  simp only [legsOk, Bool.and_eq_true, decide_eq_true_eq, legsAll] at h
  refine ⟨h.1, fun k hk => ?_⟩
  have := List.all_eq_true.1 h.2 k (List.mem_range.2 hk)
  simp only [legOk, Bool.and_eq_true] at this
  exact legB_of this.1
theorem changes_eq (n : Nat) {p x : SLeg} {ch : Int} (hp : LegB p) (hc : 0 ≤ ch ∧ ch ≤ 10000) : impl_changes n p x ch = some (lgo ch p x) := by
  have h1 := hp.c
  have e1 : w64 (p.Comes + 0) = p.Comes := by rw [w64_id (by omega) (by omega)]; omega
  have e2 : w64 (p.Comes + ch) = p.Comes + ch := w64_id (by omega) (by omega)
  unfold impl_changes lgo
  simp only [bd_eq, e1, e2]
  by_cases hs : p.Service = x.Service <;> by_cases ht : p.To = x.From <;> simp [hs, ht]
theorem may_eq (n : Nat) {x : SLeg} {a s ch : Int} (ha : 0 ≤ a ∧ a ≤ 100000000) (hc : 0 ≤ ch ∧ ch ≤ 10000) : spec_l22May n x a s ch = some (decide (a + (if s = 0 ∨ s = x.Service then 0 else ch) ≤ x.Leaves)) := by
  have e2 : w64 (a + ch) = a + ch := w64_id (by omega) (by omega)
  unfold spec_l22May
  by_cases h0 : s = 0
  · simp [h0]
  · by_cases hs : s = x.Service
    · subst hs; simp [h0]
    · simp [h0, hs, e2]
section
variable (l : List SLeg) (fr at_ ch : Int)
/-- What can be taken at all. -/
inductive Rch : Nat → Prop
  | start {j : Nat} : j < l.length → lst fr at_ (l.getD j dSLeg) = true → Rch j
  | step {i j : Nat} : Rch i → j < l.length → lgo ch (l.getD i dSLeg) (l.getD j dSLeg) = true → Rch j
end
theorem Rch.lt {l : List SLeg} {fr at_ ch : Int} {j : Nat} (h : Rch l fr at_ ch j) : j < l.length := by cases h <;> assumption
theorem Rch.late {l : List SLeg} {fr at_ ch : Int} (hl : ∀ k, k < l.length → LegB (l.getD k dSLeg)) (hc : 0 ≤ ch) {j : Nat} (h : Rch l fr at_ ch j) : at_ ≤ (l.getD j dSLeg).Leaves := by
  induction h with
  | start h1 h2 => simp only [lst, Bool.and_eq_true, decide_eq_true_eq] at h2; exact h2.2
  | @step i j h1 h2 h3 ih =>
    have := (hl i h1.lt).lt
    simp only [lgo, Bool.and_eq_true, decide_eq_true_eq] at h3
    have := h3.2
    split at this <;> omega
theorem lgo_lt {l : List SLeg} {ch : Int} (hl : ∀ k, k < l.length → LegB (l.getD k dSLeg)) (hc : 0 ≤ ch) {i j : Nat} (hi : i < l.length) (h : lgo ch (l.getD i dSLeg) (l.getD j dSLeg) = true) : (l.getD i dSLeg).Leaves < (l.getD j dSLeg).Leaves := by
  have := (hl i hi).lt
  simp only [lgo, Bool.and_eq_true, decide_eq_true_eq] at h
  have := h.2
  split at this <;> omega
/-! ### One pass over the legs -/
def stepOk (l : List SLeg) (fr at_ ch : Int) (can : List Bool) (j : Nat) : Bool := lst fr at_ (l.getD j dSLeg) || (List.range l.length).any fun k => can.getD k false && lgo ch (l.getD k dSLeg) (l.getD j dSLeg)
def passStep (l : List SLeg) (fr at_ ch : Int) (i : Nat) (s : Bool × List Bool) : Bool × List Bool :=
  bif s.2.getD i false then s else bif stepOk l fr at_ ch s.2 i then (true, s.2.set i true) else s
theorem count_set {c : List Bool} {i : Nat} (hi : i < c.length) (h : c.getD i false = false) : (c.set i true).countP id = c.countP id + 1 := by
  rw [getD_eq hi] at h
  rw [List.countP_set hi]
  simp [h]
structure PassI (l : List SLeg) (fr at_ ch : Int) (can0 : List Bool) (k : Nat) (s : Bool × List Bool) : Prop where
  len : s.2.length = l.length
  sound : ∀ i, s.2.getD i false = true → Rch l fr at_ ch i
  no : s.1 = false → s.2 = can0 ∧ ∀ i, i < k → can0.getD i false = true ∨ stepOk l fr at_ ch can0 i = false
  cnt : s.1 = true → can0.countP id < s.2.countP id
  le : can0.countP id ≤ s.2.countP id
theorem stepOk_rch {l : List SLeg} {fr at_ ch : Int} {can : List Bool} (hs : ∀ i, can.getD i false = true → Rch l fr at_ ch i) {j : Nat} (hj : j < l.length) (h : stepOk l fr at_ ch can j = true) : Rch l fr at_ ch j := by
  simp only [stepOk, Bool.or_eq_true, List.any_eq_true, Bool.and_eq_true] at h
  rcases h with h | ⟨k, _, h1, h2⟩
  · exact .start hj h
  · exact .step (hs k h1) hj h2
theorem pass_ok {l : List SLeg} {fr at_ ch : Int} {can0 : List Bool} (hlen : can0.length = l.length) (hs : ∀ i, can0.getD i false = true → Rch l fr at_ ch i) : ∀ k, k ≤ l.length → PassI l fr at_ ch can0 k (foldN (passStep l fr at_ ch) k (false, can0)) :=
  foldN_ind _ ⟨hlen, hs, fun _ => ⟨rfl, fun i hi => absurd hi (Nat.not_lt_zero _)⟩, fun h => (by cases h), Nat.le_refl _⟩ fun k s hk hi => by
    unfold passStep
    cases h1 : s.2.getD k false with
    | true =>
      simp only [cond_true]
      refine ⟨hi.len, hi.sound, fun h => ⟨(hi.no h).1, fun i hik => ?_⟩, hi.cnt, hi.le⟩
      by_cases e : i = k
      · subst e; left; rw [← (hi.no h).1]; exact h1
      · exact (hi.no h).2 i (by omega)
    | false =>
      simp only [cond_false]
      cases h2 : stepOk l fr at_ ch s.2 k with
      | false =>
        simp only [cond_false]
        refine ⟨hi.len, hi.sound, fun h => ⟨(hi.no h).1, fun i hik => ?_⟩, hi.cnt, hi.le⟩
        by_cases e : i = k
        · subst e; right; rw [← (hi.no h).1]; exact h2
        · exact (hi.no h).2 i (by omega)
      | true =>
        simp only [cond_true]
        have hc := count_set (by rw [hi.len]; exact hk) h1
        refine ⟨by simp [hi.len], fun i h => ?_, fun h => (by cases h), fun _ => (by have := hi.le; show _ < (s.2.set k true).countP id; omega), by have := hi.le; show _ ≤ (s.2.set k true).countP id; omega⟩
        by_cases e : i = k
        · subst e; exact stepOk_rch hi.sound hk h2
        · rw [getD_set_ne e] at h; exact hi.sound i h
/-! ### The first function's reach -/
theorem range_any_succ {p : Nat → Bool} (len k : Nat) (h : k < len) : ((List.range' k (len - k)).any p) = (p k || (List.range' (k + 1) (len - (k + 1))).any p) := by
  rw [show len - k = (len - (k + 1)) + 1 from by omega, List.range'_succ, List.any_cons]
theorem reach_in {R : Type} {n : Nat} (kx : Bool → Option R) {l : List SLeg} (hl : ∀ k, k < l.length → LegB (l.getD k dSLeg)) (hlen : l.length ≤ 60) {ch : Int} (hc : 0 ≤ ch ∧ ch ≤ 10000) (fr at_ : Int) (ag : Bool) {i : Nat} (hi : i < l.length) {can : List Bool} (hcan : can.length = l.length) :
    ∀ m k ok fuel, k + m = l.length → m < fuel → loopN (fun (x : Bool × Int) J' => spec_l22Reach_L11 n kx (fun ok63 k64 => J' (ok63, k64)) l fr at_ ch ag (i : Int) x.1 x.2 can) fuel (ok, (k : Int)) =
      kx (ok || (List.range' k (l.length - k)).any fun k => can.getD k false && lgo ch (l.getD k dSLeg) (l.getD i dSLeg)) := by
  intro m
  induction m with
  | zero =>
    intro k ok fuel hk hf
    cases fuel with
    | zero => omega
    | succ fuel =>
      rw [loopN_succ]
      unfold spec_l22Reach_L11
      have hk : k = l.length := by omega
      subst hk
      simp
  | succ m ih =>
    intro k ok fuel hk hf
    cases fuel with
    | zero => omega
    | succ fuel =>
      rw [loopN_succ]
      have h : k < l.length := by omega
      have hk' : k < can.length := by omega
      have ihm := fun ok => ih (k + 1) ok fuel (by omega) (by omega)
      generalize loopN (fun (x : Bool × Int) J' => spec_l22Reach_L11 n kx (fun ok63 k64 => J' (ok63, k64)) l fr at_ ch ag (i : Int) x.1 x.2 can) fuel = J at ihm ⊢
      unfold spec_l22Reach_L11
      simp only [Int.ofNat_lt, h, decide_true, cond_true]
      cases ok with
      | true => simp
      | false =>
        rw [range_any_succ _ _ h]
        simp only [Bool.not_false, cond_true]
        unfold spec_l22Reach_k0
        rw [ix_nat hk', Int.toNat_natCast, chk_dec hk']
        have e : w64 ((k : Int) + 1) = ((k + 1 : Nat) : Int) := w64_succ (by omega)
        cases hck : can.getD k false with
        | false =>
          simp only [cond_false, Bool.false_and, Bool.false_or]
          rw [e, ihm]
          simp
        | true =>
          simp only [cond_true, Bool.true_and, ix_nat h, ix_nat hi, bd_eq, Int.toNat_natCast]
          have hlk := hl k h
          by_cases ht : (l.getD k dSLeg).To = (l.getD i dSLeg).From
          · rw [decide_eq_true ht]
            simp only [cond_true]
            rw [may_eq n hlk.c hc, Option.bind_some, e, ihm]
            have hs0 : (l.getD k dSLeg).Service ≠ 0 := by have := hlk.s; omega
            congr 1
            rw [show lgo ch (l.getD k dSLeg) (l.getD i dSLeg) = decide ((l.getD k dSLeg).Comes + (if (l.getD k dSLeg).Service = 0 ∨ (l.getD k dSLeg).Service = (l.getD i dSLeg).Service then 0 else ch) ≤ (l.getD i dSLeg).Leaves) from by unfold lgo; rw [decide_eq_true ht]; simp only [Bool.true_and, hs0, false_or]]
            rfl
          · rw [decide_eq_false ht]
            simp only [cond_false]
            rw [e, ihm]
            rw [show lgo ch (l.getD k dSLeg) (l.getD i dSLeg) = false from by unfold lgo; rw [decide_eq_false ht]; rfl]
            rfl
theorem reach_in0 {R : Type} {n : Nat} (kx : Bool → Option R) {l : List SLeg} (hl : ∀ k, k < l.length → LegB (l.getD k dSLeg)) (hlen : l.length ≤ 60) {ch : Int} (hc : 0 ≤ ch ∧ ch ≤ 10000) (fr at_ : Int) (ag : Bool) {i : Nat} (hi : i < l.length) {can : List Bool} (hcan : can.length = l.length) (ok : Bool) (hn : 1000000000 < n) :
    loopN (fun (x : Bool × Int) J' => spec_l22Reach_L11 n kx (fun ok63 k64 => J' (ok63, k64)) l fr at_ ch ag (i : Int) x.1 x.2 can) n (ok, (0 : Int)) = kx (ok || (List.range l.length).any fun k => can.getD k false && lgo ch (l.getD k dSLeg) (l.getD i dSLeg)) := by
  rw [List.range_eq_range']
  exact reach_in kx hl hlen hc fr at_ ag hi hcan l.length 0 ok n (by omega) (by omega)
theorem reach_pass {R : Type} {n : Nat} (kx : Bool → List Bool → Option R) {l : List SLeg} (hl : ∀ k, k < l.length → LegB (l.getD k dSLeg)) (hlen : l.length ≤ 60) {fr at_ ch : Int} (ha : 0 ≤ at_ ∧ at_ ≤ 100000000) (hc : 0 ≤ ch ∧ ch ≤ 10000) {can : List Bool} (hcan : can.length = l.length) (hs : ∀ i, can.getD i false = true → Rch l fr at_ ch i) (hn : 1000000000 < n) :
    loopN (fun (x : Bool × Int × List Bool) J' => spec_l22Reach_L6 n kx (fun again89 i90 can91 => J' (again89, i90, can91)) l fr at_ ch x.1 x.2.1 x.2.2) n (false, (0 : Int), can) = kx (foldN (passStep l fr at_ ch) l.length (false, can)).1 (foldN (passStep l fr at_ ch) l.length (false, can)).2 := by
  refine loop_fold (enc := fun i (s : Bool × List Bool) => (s.1, i, s.2)) (f := passStep l fr at_ ch) (fin := fun s => kx s.1 s.2) (fun k s => PassI l fr at_ ch can k s) (fun k s J hk hi => ⟨?_, ?_⟩) (fun s J hi => ?_) (by omega) (s0 := (false, can)) (pass_ok hcan hs 0 (Nat.zero_le _))
  · unfold passStep
    cases h1 : s.2.getD k false with
    | true =>
      simp only [cond_true]
      refine ⟨hi.len, hi.sound, fun h => ⟨(hi.no h).1, fun i hik => ?_⟩, hi.cnt, hi.le⟩
      by_cases e : i = k
      · subst e; left; rw [← (hi.no h).1]; exact h1
      · exact (hi.no h).2 i (by omega)
    | false =>
      simp only [cond_false]
      cases h2 : stepOk l fr at_ ch s.2 k with
      | false =>
        simp only [cond_false]
        refine ⟨hi.len, hi.sound, fun h => ⟨(hi.no h).1, fun i hik => ?_⟩, hi.cnt, hi.le⟩
        by_cases e : i = k
        · subst e; right; rw [← (hi.no h).1]; exact h2
        · exact (hi.no h).2 i (by omega)
      | true =>
        simp only [cond_true]
        have hc := count_set (by rw [hi.len]; exact hk) h1
        refine ⟨by simp [hi.len], fun i h => ?_, fun h => (by cases h), fun _ => (by have := hi.le; show _ < (s.2.set k true).countP id; omega), by have := hi.le; show _ ≤ (s.2.set k true).countP id; omega⟩
        by_cases e : i = k
        · subst e; exact stepOk_rch hi.sound hk h2
        · rw [getD_set_ne e] at h; exact hi.sound i h
  · obtain ⟨ag, c⟩ := s
    have hlc : c.length = l.length := hi.len
    have hkc : k < c.length := by omega
    have e : w64 ((k : Int) + 1) = ((k + 1 : Nat) : Int) := w64_succ (by omega)
    show spec_l22Reach_L6 n kx (fun again89 i90 can91 => J (again89, i90, can91)) l fr at_ ch ag (k : Int) c = _
    unfold spec_l22Reach_L6 passStep
    simp only [Int.ofNat_lt, hk, decide_true, cond_true, ix_nat hkc, Int.toNat_natCast, chk_dec hkc, e]
    cases h1 : c.getD k false with
    | true => rfl
    | false =>
      simp only [cond_false]
      unfold spec_l22Reach_k3
      have hfin : ∀ ok : Bool, (bif ok then ix (k : Int) c.length (chk (decide ((k : Int).toNat < c.length)) (J (true, w64 ((k : Int) + (1 : Int)), c.set (k : Int).toNat true))) else J (ag, w64 ((k : Int) + (1 : Int)), c)) = J ((bif ok then (true, c.set k true) else (ag, c)).1, ((k + 1 : Nat) : Int), (bif ok then (true, c.set k true) else (ag, c)).2) := fun ok => by
        cases ok <;> simp [ix_nat hkc, e, chk_dec hkc]
      simp only [ix_nat hk, bd_eq, Int.toNat_natCast]
      by_cases hf : (l.getD k dSLeg).From = fr
      · rw [decide_eq_true hf]
        simp only [cond_true]
        rw [may_eq n ha hc, Option.bind_some]
        unfold spec_l22Reach_k1
        rw [reach_in0 _ hl hlen hc fr at_ ag hk hlc _ hn]
        rw [hfin]
        simp only [true_or, if_true, Int.add_zero, stepOk, lst, hf, decide_true, Bool.true_and]
      · rw [decide_eq_false hf]
        simp only [cond_false]
        unfold spec_l22Reach_k2
        rw [reach_in0 _ hl hlen hc fr at_ ag hk hlc _ hn]
        rw [hfin]
        simp only [stepOk, lst, hf, decide_false, Bool.false_and]
  · unfold spec_l22Reach_L6
    simp
end Go.Sm
end

section
set_option linter.unusedSimpArgs false
set_option linter.deprecated false
set_option linter.unusedSectionVars false
set_option linter.unusedVariables false
set_option linter.unusedSimpArgs false
namespace Go.Sm
attribute [local irreducible] bd chk ix loopN
/-- What the first function's reach has told. -/
structure CanIs (l : List SLeg) (fr at_ ch : Int) (can : List Bool) : Prop where
  len : can.length = l.length
  is : ∀ i, can.getD i false = true ↔ Rch l fr at_ ch i
theorem closed_rch {l : List SLeg} {fr at_ ch : Int} {can : List Bool} (h : ∀ i, i < l.length → can.getD i false = true ∨ stepOk l fr at_ ch can i = false) {i : Nat} (hr : Rch l fr at_ ch i) : can.getD i false = true := by
  induction hr with
  | @start j h1 h2 =>
    rcases h j h1 with h | h
    · exact h
    · unfold stepOk at h; rw [h2, Bool.true_or] at h; cases h
  | @step i j h1 h2 h3 ih =>
    rcases h j h2 with h | h
    · exact h
    · have : stepOk l fr at_ ch can j = true := by
        simp only [stepOk, Bool.or_eq_true, List.any_eq_true, Bool.and_eq_true]
        exact .inr ⟨i, List.mem_range.2 h1.lt, ih, h3⟩
      rw [this] at h; cases h
theorem countP_le (c : List Bool) : c.countP id ≤ c.length := List.countP_le_length
theorem reach_spec {n : Nat} {l : List SLeg} (hl : ∀ k, k < l.length → LegB (l.getD k dSLeg)) (hlen : l.length ≤ 60) {fr at_ ch : Int} (ha : 0 ≤ at_ ∧ at_ ≤ 100000000) (hc : 0 ≤ ch ∧ ch ≤ 10000) (hn : 1000000000 < n) :
    ∃ can, spec_l22Reach n l fr at_ ch = some can ∧ CanIs l fr at_ ch can := by
  unfold spec_l22Reach
  rw [chk_dec (by omega), chk_dec (by omega), chk_dec (by omega)]
  refine loopN_ind (fun x => (l.length - x.2.countP id) + (bif x.1 then 1 else 0)) (fun x => x.2.length = l.length ∧ (∀ i, x.2.getD i false = true → Rch l fr at_ ch i) ∧ (x.1 = false → ∀ i, i < l.length → x.2.getD i false = true ∨ stepOk l fr at_ ch x.2 i = false))
    (fun x r => ∃ can, r = some can ∧ CanIs l fr at_ ch can) ?_ n _ ⟨by simp, fun i h => ?_, fun h => (by cases h)⟩ (by simp; omega)
  · rintro ⟨ag, can⟩ J ⟨h1, h2, h3⟩ ih
    cases ag with
    | false => exact ⟨can, rfl, h1, fun i => ⟨h2 i, closed_rch (h3 rfl)⟩⟩
    | true =>
      show ∃ c, spec_l22Reach_L3 n _ _ l fr at_ ch true can = some c ∧ _
      unfold spec_l22Reach_L3
      rw [cond_true, reach_pass _ hl hlen ha hc h1 h2 hn]
      have hp := pass_ok (l := l) h1 h2 l.length (Nat.le_refl _)
      generalize foldN (passStep l fr at_ ch) l.length (false, can) = s at hp ⊢
      obtain ⟨ag2, can2⟩ := s
      refine ih (ag2, can2) ⟨hp.len, hp.sound, fun h => ?_⟩ ?_
      · obtain ⟨e1, e2⟩ := hp.no h
        have e1 : can2 = can := e1
        subst e1
        exact e2
      · have hle := countP_le can2
        have hl2 : can2.length = l.length := hp.len
        have h4 : can.countP id ≤ can2.countP id := hp.le
        cases ag2 with
        | false => simp only [cond_false, cond_true]; omega
        | true =>
          have h5 : can.countP id < can2.countP id := hp.cnt rfl
          simp only [cond_true]; omega
  · simp [List.getD_eq_getElem?_getD, List.getElem?_replicate] at h
    split at h <;> cases h
/-! ### The soonest -/
/-- The soonest that a set of legs comes to a port. -/
def BestOn (l : List SLeg) (fr at_ ch : Int) (S : Nat → Prop) (p v : Int) : Prop :=
  (v = -1 ∧ ∀ i, S i → Rch l fr at_ ch i → (l.getD i dSLeg).To ≠ p) ∨ (∃ i, S i ∧ Rch l fr at_ ch i ∧ (l.getD i dSLeg).To = p ∧ v = (l.getD i dSLeg).Comes ∧ ∀ j, S j → Rch l fr at_ ch j → (l.getD j dSLeg).To = p → v ≤ (l.getD j dSLeg).Comes)
theorem BestOn.uniq {l : List SLeg} {fr at_ ch : Int} (hl : ∀ k, k < l.length → LegB (l.getD k dSLeg)) {S : Nat → Prop} {p v v' : Int} (h : BestOn l fr at_ ch S p v) (h' : BestOn l fr at_ ch S p v') : v = v' := by
  rcases h with ⟨rfl, h1⟩ | ⟨i, a1, a2, a3, a4, a5⟩ <;> rcases h' with ⟨rfl, h2⟩ | ⟨j, b1, b2, b3, b4, b5⟩
  · rfl
  · exact absurd b3 (h1 j b1 b2)
  · exact absurd a3 (h2 i a1 a2)
  · have h1 := a5 j b1 b2 b3
    have h2 := b5 i a1 a2 a3
    omega
theorem BestOn.congr {l : List SLeg} {fr at_ ch : Int} {S S' : Nat → Prop} (hS : ∀ i, S i ↔ S' i) {p v : Int} (h : BestOn l fr at_ ch S p v) : BestOn l fr at_ ch S' p v := by
  rw [show S = S' from funext fun i => propext (hS i)] at h; exact h
open Classical in
/-- One leg more. -/
theorem BestOn.more {l : List SLeg} {fr at_ ch : Int} (hl : ∀ k, k < l.length → LegB (l.getD k dSLeg)) {S : Nat → Prop} {p v : Int} (h : BestOn l fr at_ ch S p v) (k : Nat) :
    BestOn l fr at_ ch (fun i => S i ∨ i = k) p (if Rch l fr at_ ch k ∧ (l.getD k dSLeg).To = p ∧ (v < 0 ∨ (l.getD k dSLeg).Comes < v) then (l.getD k dSLeg).Comes else v) := by
  by_cases hk : Rch l fr at_ ch k ∧ (l.getD k dSLeg).To = p
  · by_cases hv : v < 0 ∨ (l.getD k dSLeg).Comes < v
    · rw [if_pos ⟨hk.1, hk.2, hv⟩]
      refine .inr ⟨k, .inr rfl, hk.1, hk.2, rfl, fun j hj hr ht => ?_⟩
      rcases hj with hj | rfl
      · rcases h with ⟨h0, h1⟩ | ⟨i, a1, a2, a3, a4, a5⟩
        · exact absurd ht (h1 j hj hr)
        · have := a5 j hj hr ht
          have := (hl i a2.lt).c
          omega
      · exact Int.le_refl _
    · rw [if_neg (fun h => hv h.2.2)]
      rcases h with ⟨h0, h1⟩ | ⟨i, a1, a2, a3, a4, a5⟩
      · omega
      · refine .inr ⟨i, .inl a1, a2, a3, a4, fun j hj hr ht => ?_⟩
        rcases hj with hj | rfl
        · exact a5 j hj hr ht
        · omega
  · rw [if_neg (fun h => hk ⟨h.1, h.2.1⟩)]
    rcases h with ⟨h0, h1⟩ | ⟨i, a1, a2, a3, a4, a5⟩
    · refine .inl ⟨h0, fun j hj hr => ?_⟩
      rcases hj with hj | rfl
      · exact h1 j hj hr
      · exact fun ht => hk ⟨hr, ht⟩
    · refine .inr ⟨i, .inl a1, a2, a3, a4, fun j hj hr ht => ?_⟩
      rcases hj with hj | rfl
      · exact a5 j hj hr ht
      · exact absurd ⟨hr, ht⟩ hk
/-- What both tell: the soonest at each port. -/
structure EarlIs (l : List SLeg) (fr at_ ch : Int) (e : List Int) : Prop where
  len : e.length = 20
  at0 : e.getD fr.toNat 0 = at_
  best : ∀ p : Nat, p < 20 → (p : Int) ≠ fr → BestOn l fr at_ ch (fun i => i < l.length) p (e.getD p 0)
theorem EarlIs.uniq {l : List SLeg} {fr at_ ch : Int} (hl : ∀ k, k < l.length → LegB (l.getD k dSLeg)) (hf : 0 ≤ fr) {e e' : List Int} (h : EarlIs l fr at_ ch e) (h' : EarlIs l fr at_ ch e') : e = e' := by
  apply List.ext_getElem (by rw [h.len, h'.len])
  intro p h1 h2
  rw [← getD_eq (d := 0) h1, ← getD_eq (d := 0) h2]
  by_cases hp : (p : Int) = fr
  · have e1 := h.at0
    have e2 := h'.at0
    rw [← hp, Int.toNat_natCast] at e1 e2
    rw [e1, e2]
  · exact (h.best p (by rw [← h.len]; exact h1) hp).uniq hl (h'.best p (by rw [← h.len]; exact h1) hp)
open Classical in
noncomputable def bestStep (l : List SLeg) (fr at_ ch : Int) (p : Nat) (i : Nat) (o : List Int) : List Int :=
  if Rch l fr at_ ch i ∧ (l.getD i dSLeg).To = (p : Int) ∧ (o.getD p 0 < 0 ∨ (l.getD i dSLeg).Comes < o.getD p 0) then o.set p (l.getD i dSLeg).Comes else o
theorem bestStep_len (l : List SLeg) (fr at_ ch : Int) (p i : Nat) (o : List Int) : (bestStep l fr at_ ch p i o).length = o.length := by unfold bestStep; split <;> simp
theorem bestStep_ne (l : List SLeg) (fr at_ ch : Int) (p i : Nat) (o : List Int) {q : Nat} (hq : q ≠ p) : (bestStep l fr at_ ch p i o).getD q 0 = o.getD q 0 := by
  unfold bestStep; split
  · exact getD_set_ne hq
  · rfl
open Classical in
theorem bestStep_at (l : List SLeg) (fr at_ ch : Int) (p i : Nat) {o : List Int} (hp : p < o.length) : (bestStep l fr at_ ch p i o).getD p 0 = if Rch l fr at_ ch i ∧ (l.getD i dSLeg).To = (p : Int) ∧ (o.getD p 0 < 0 ∨ (l.getD i dSLeg).Comes < o.getD p 0) then (l.getD i dSLeg).Comes else o.getD p 0 := by
  unfold bestStep; split
  · exact getD_set hp
  · rfl
theorem earl_in {R : Type} {n : Nat} (kx : List Int → Option R) {l : List SLeg} (hl : ∀ k, k < l.length → LegB (l.getD k dSLeg)) (hlen : l.length ≤ 60) {fr at_ ch : Int} {can : List Bool} (hcan : CanIs l fr at_ ch can) {p : Nat} {o : List Int} (hp : p < o.length) (hn : 1000000000 < n) :
    loopN (fun (x : Int × List Int) J' => spec_Earliest_L10 n kx (fun i57 out58 => J' (i57, out58)) l fr at_ (p : Int) x.1 can x.2) n ((0 : Int), o) = kx (foldN (bestStep l fr at_ ch p) l.length o) := by
  refine loop_fold (enc := fun i (s : List Int) => (i, s)) (f := bestStep l fr at_ ch p) (fin := kx) (fun k s => s.length = o.length) (fun k s J hk hi => ⟨by rw [bestStep_len]; exact hi, ?_⟩) (fun s J hi => ?_) (by omega) rfl
  · have hps : p < s.length := by omega
    have hkc : k < can.length := by rw [hcan.len]; exact hk
    have e : w64 ((k : Int) + 1) = ((k + 1 : Nat) : Int) := w64_succ (by omega)
    show spec_Earliest_L10 n kx (fun i57 out58 => J (i57, out58)) l fr at_ (p : Int) (k : Int) can s = _
    unfold spec_Earliest_L10 spec_Earliest_k1 bestStep
    simp only [Int.ofNat_lt, hk, decide_true, cond_true, ix_nat hkc, Int.toNat_natCast, chk_dec hkc, e]
    by_cases hr : Rch l fr at_ ch k
    · rw [(hcan.is k).2 hr, cond_true, ix_nat hk, bd_eq]
      by_cases ht : (l.getD k dSLeg).To = (p : Int)
      · rw [decide_eq_true ht, cond_true, ix_nat hps, chk_dec hps]
        by_cases hv : s.getD p 0 < 0
        · rw [decide_eq_true hv, cond_true, ix_nat hk, bd_eq, ix_nat hps, chk_dec hps, bd_eq, if_pos ⟨hr, ht, .inl hv⟩]
        · rw [decide_eq_false hv, cond_false, ix_nat hk, bd_eq, ix_nat hps, chk_dec hps]
          unfold spec_Earliest_k0
          by_cases hv2 : (l.getD k dSLeg).Comes < s.getD p 0
          · rw [decide_eq_true hv2, cond_true, ix_nat hk, bd_eq, ix_nat hps, Int.toNat_natCast, chk_dec hps, bd_eq, e, if_pos ⟨hr, ht, .inr hv2⟩, Int.toNat_natCast]
          · rw [decide_eq_false hv2, cond_false, e, if_neg (fun h => h.2.2.elim hv hv2)]
      · rw [decide_eq_false ht, cond_false, if_neg (fun h => ht h.2.1)]
    · have hf : can.getD k false = false := by
        cases h : can.getD k false with
        | false => rfl
        | true => exact absurd ((hcan.is k).1 h) hr
      rw [hf, cond_false, if_neg (fun h => hr h.1)]
  · unfold spec_Earliest_L10
    simp
end Go.Sm
end

section
set_option linter.unusedSimpArgs false
set_option linter.deprecated false
set_option linter.unusedSectionVars false
set_option linter.unusedVariables false
set_option linter.unusedSimpArgs false
namespace Go.Sm
attribute [local irreducible] bd chk ix loopN
theorem best_fold {l : List SLeg} {fr at_ ch : Int} (hl : ∀ k, k < l.length → LegB (l.getD k dSLeg)) {p : Nat} {o : List Int} (hp : p < o.length) (h0 : o.getD p 0 = -1) :
    (foldN (bestStep l fr at_ ch p) l.length o).length = o.length ∧ BestOn l fr at_ ch (fun i => i < l.length) p ((foldN (bestStep l fr at_ ch p) l.length o).getD p 0) ∧ ∀ q, q ≠ p → (foldN (bestStep l fr at_ ch p) l.length o).getD q 0 = o.getD q 0 := by
  refine foldN_ind (f := bestStep l fr at_ ch p) (len := l.length) (fun k s => s.length = o.length ∧ BestOn l fr at_ ch (fun i => i < k) p (s.getD p 0) ∧ ∀ q, q ≠ p → s.getD q 0 = o.getD q 0) ⟨rfl, .inl ⟨h0, fun i hi => absurd hi (Nat.not_lt_zero _)⟩, fun _ _ => rfl⟩ (fun k s hk hi => ⟨by rw [bestStep_len]; exact hi.1, ?_, fun q hq => by rw [bestStep_ne _ _ _ _ _ _ _ hq]; exact hi.2.2 q hq⟩) l.length (Nat.le_refl _)
  rw [bestStep_at _ _ _ _ _ _ (by rw [hi.1]; exact hp)]
  exact (hi.2.1.more hl k).congr fun i => by omega
theorem in_spec22 (n : Nat) (x a b : Int) : spec_l1In n x a b = some (decide (a ≤ x ∧ x ≤ b)) := in_spec4 n x a b
theorem minute_spec (n : Nat) (x : Int) : spec_l1Minute n x = some (decide (0 ≤ x ∧ x ≤ 100000000)) := by unfold spec_l1Minute; rw [in_spec4]; rfl
/-- Are the arguments right? -/
def earlOk (l : List SLeg) (fr at_ ch : Int) : Bool := legsOk l && (decide (0 ≤ fr ∧ fr ≤ 19) && (decide (0 ≤ at_ ∧ at_ ≤ 100000000) && decide (0 ≤ ch ∧ ch ≤ 10000)))
theorem earlOk_is {l : List SLeg} {fr at_ ch : Int} (h : earlOk l fr at_ ch = true) : legsOk l = true ∧ (0 ≤ fr ∧ fr ≤ 19) ∧ (0 ≤ at_ ∧ at_ ≤ 100000000) ∧ (0 ≤ ch ∧ ch ≤ 10000) := by
  simpa [earlOk, Bool.and_eq_true, decide_eq_true_eq] using h
theorem earl_spec {n : Nat} (l : List SLeg) (fr at_ ch : Int) (hl : l.length ≤ 1048576) (hn : 1000000000 < n) :
    (earlOk l fr at_ ch = false ∧ spec_Earliest n l fr at_ ch = some ([], false)) ∨ (earlOk l fr at_ ch = true ∧ ∃ e, spec_Earliest n l fr at_ ch = some (e, true) ∧ EarlIs l fr at_ ch e) := by
  unfold spec_Earliest
  rw [legs_spec l hl hn, Option.bind_some, in_spec4, Option.bind_some, minute_spec, Option.bind_some, in_spec4, Option.bind_some]
  cases h1 : legsOk l with
  | false => left; exact ⟨by simp [earlOk, h1], rfl⟩
  | true =>
    by_cases h2 : 0 ≤ fr ∧ fr ≤ 19
    · by_cases h3 : 0 ≤ at_ ∧ at_ ≤ 100000000
      · by_cases h4 : 0 ≤ ch ∧ ch ≤ 10000
        · right
          refine ⟨by simp [earlOk, h1, h2, h3, h4], ?_⟩
          simp only [h2, h3, h4, and_self, decide_true, Bool.not_true, cond_false]
          obtain ⟨hlen, hb⟩ := legs_at h1
          unfold spec_Earliest_k3
          obtain ⟨can, hcan, his⟩ := reach_spec hb hlen h3 h4 hn (fr := fr)
          rw [hcan, Option.bind_some]
          have hfr : fr.toNat < 20 := by omega
          have hfe : ((fr.toNat : Nat) : Int) = fr := by omega
          refine loop_runS (enc := fun i (s : List Int) => (i, s)) (I := fun k s => s.length = 20 ∧ ∀ p, p < k → BestOn l fr at_ ch (fun i => i < l.length) p (s.getD p 0)) (Q := fun r => ∃ e, r = some (e, true) ∧ EarlIs l fr at_ ch e) (len := 20)
            (fun k s J hk hi => ⟨foldN (bestStep l fr at_ ch k) l.length (s.set k (-1)), ?_, ?_⟩) (fun s J hi => ?_) (by omega) ⟨by simp, fun p hp => absurd hp (Nat.not_lt_zero _)⟩
          · have hks : k < (s.set k (-1)).length := by simp [hi.1, hk]
            obtain ⟨b1, b2, b3⟩ := best_fold (fr := fr) (at_ := at_) (ch := ch) hb hks (getD_set (by rw [hi.1]; exact hk))
            refine ⟨by rw [b1]; simp [hi.1], fun p hp => ?_⟩
            by_cases e : p = k
            · subst e; exact b2
            · rw [b3 p e, getD_set_ne e]; exact hi.2 p (by omega)
          · have hks : k < s.length := by rw [hi.1]; exact hk
            have e : w64 ((k : Int) + 1) = ((k + 1 : Nat) : Int) := w64_succ (by omega)
            show spec_Earliest_L6 n _ (fun p60 out61 => J (p60, out61)) l fr at_ (k : Int) can s = _
            unfold spec_Earliest_L6 spec_Earliest_k2
            rw [decide_eq_true (show (k : Int) < 20 by omega), cond_true, ix_nat hks, Int.toNat_natCast, chk_dec hks, bd_eq, earl_in _ hb hlen his (by simpa using hks) hn, e]
          · show ∃ e, spec_Earliest_L6 n _ _ l fr at_ 20 can s = _ ∧ _
            unfold spec_Earliest_L6
            have hfs : fr.toNat < s.length := by rw [hi.1]; exact hfr
            rw [decide_eq_false (by omega), cond_false]
            show ∃ e, (ix fr s.length (chk (decide (fr.toNat < s.length)) (some (s.set fr.toNat at_, true)))) = some (e, true) ∧ EarlIs l fr at_ ch e
            rw [ix_of h2.1 (by rw [hi.1]; omega), chk_dec hfs]
            refine ⟨_, rfl, by simp [hi.1], getD_set hfs, fun p hp hne => ?_⟩
            rw [getD_set_ne (by omega)]
            exact hi.2 p hp
        · left; exact ⟨by simp [earlOk, h4], by simp [h2, h3, h4]⟩
      · left; exact ⟨by simp [earlOk, h3], by simp [h2, h3]⟩
    · left; exact ⟨by simp [earlOk, h2], by simp [h2]⟩
end Go.Sm
end

section
set_option linter.unusedSimpArgs false
set_option linter.deprecated false
set_option linter.unusedSectionVars false
set_option linter.unusedVariables false
set_option linter.unusedSimpArgs false
namespace Go.Sm
attribute [local irreducible] bd chk ix loopN
/-! ### The second function: the legs by their leaving -/
theorem port_impl (n : Nat) (x : Int) : impl_linePort n x = some (decide (0 ≤ x ∧ x ≤ 19)) := by unfold impl_linePort; rw [in_impl4]; rfl
theorem minute_impl (n : Nat) (x : Int) : impl_minuteOk n x = some (decide (0 ≤ x ∧ x ≤ 100000000)) := by unfold impl_minuteOk; rw [in_impl4]; rfl
theorem right_impl {n : Nat} (l : List SLeg) (fr at_ ch : Int) (hl : l.length ≤ 1048576) (hn : 1000000000 < n) : impl_lineRight n l fr at_ ch = some (earlOk l fr at_ ch) := by
  unfold impl_lineRight earlOk
  rw [legs_impl l hl hn, port_impl, minute_impl, in_impl4]
  generalize decide (0 ≤ fr ∧ fr ≤ 19) = b2
  generalize decide (0 ≤ at_ ∧ at_ ≤ 100000000) = b3
  generalize decide (0 ≤ ch ∧ ch ≤ 10000) = b4
  cases legsOk l <;> cases b2 <;> cases b3 <;> cases b4 <;> rfl
def leav (l : List SLeg) (a : Int) : Int := (l.getD a.toNat dSLeg).Leaves
def cmpL (l : List SLeg) (a b : Int) : Int := if leav l a < leav l b then -1 else if leav l a > leav l b then 1 else 0
theorem cmp_int (n : Nat) (x y : Int) : cmp_Compare_int n x y = some (if x < y then -1 else if x > y then 1 else 0) := by
  unfold cmp_Compare_int cmp_isNaN_int
  simp only [decide_true, Bool.not_true, Option.bind_some, cond_false]
  by_cases h : x < y
  · simp [h]
  · by_cases h2 : x > y <;> simp [h, h2]
theorem cmp_legs (n : Nat) {l : List SLeg} {a b : Int} (ha : 0 ≤ a ∧ a < (l.length : Int)) (hb : 0 ≤ b ∧ b < (l.length : Int)) : impl_Earliest_1 n a b l = some (cmpL l a b) := by
  unfold impl_Earliest_1
  rw [ix_of ha.1 ha.2, bd_eq, ix_of hb.1 hb.2, bd_eq, cmp_int]
  rfl
def idxs (l : List SLeg) : List Int := (List.range l.length).map Int.ofNat
theorem idxs_mem {l : List SLeg} {x : Int} : x ∈ idxs l ↔ 0 ≤ x ∧ x < (l.length : Int) := by
  simp only [idxs, List.mem_map, List.mem_range]
  constructor
  · rintro ⟨k, hk, rfl⟩
    have : Int.ofNat k = (k : Int) := rfl
    omega
  · rintro ⟨h1, h2⟩
    exact ⟨x.toNat, by omega, by show ((x.toNat : Nat) : Int) = x; omega⟩
theorem sort_legs (n : Nat) {l : List SLeg} (hl : l.length ≤ 60) : ∃ o, slices_SortFunc_int_int__impl_Earliest_1 n (idxs l) l = some o ∧ o.Perm (idxs l) ∧ o.Pairwise fun x y => ¬ leav l y < leav l x := by
  unfold slices_SortFunc_int_int__impl_Earliest_1
  obtain ⟨o, h1, h2, h3⟩ := sortL_ok (d := (0 : Int)) (cmp := fun a b => impl_Earliest_1 n a b l) (cf := cmpL l) (l := idxs l) (fun x hx y hy => cmp_legs n (idxs_mem.1 hx) (idxs_mem.1 hy)) (fun x _ => by unfold cmpL; split <;> omega)
    (fun x _ y _ z _ h1 h2 => by unfold cmpL at *; split at h1 <;> split at h2 <;> split <;> omega) (fun x _ y _ z _ h1 h2 => by unfold cmpL at *; split at h1 <;> split at h2 <;> split <;> omega) (by simp [idxs]; omega)
  refine ⟨o, h1, h2, h3.imp fun {x y} h hlt => h ?_⟩
  unfold cmpL
  rw [if_pos hlt]
  omega
/-- What has been seen after t turns. -/
structure TakI (l : List SLeg) (fr at_ ch : Int) (o : List Int) (t : Nat) (s : List Int × List Bool) : Prop where
  tl : s.2.length = l.length
  tk : ∀ i : Nat, s.2.getD i false = true ↔ ((i : Int) ∈ o.take t ∧ Rch l fr at_ ch i)
  ol : s.1.length = 20
  oa : s.1.getD fr.toNat 0 = at_
  best : ∀ p : Nat, p < 20 → (p : Int) ≠ fr → BestOn l fr at_ ch (fun i => (i : Int) ∈ o.take t) p (s.1.getD p 0)
theorem take_in {R : Type} {n : Nat} {Q : Option R → Prop} (kx : List Bool → Option R) {l : List SLeg} (hl : ∀ k, k < l.length → LegB (l.getD k dSLeg)) (hlen : l.length ≤ 60) {ch : Int} (hc : 0 ≤ ch ∧ ch ≤ 10000) (fr at_ t1 t2 : Int) (out : List Int) (o : List Int) {j : Nat} (hj : j < l.length) {tk : List Bool} (ht : tk.length = l.length)
    (hq : ∀ s : List Bool, s.length = l.length → (∀ i, i ≠ j → s.getD i false = tk.getD i false) → (s.getD j false = true ↔ tk.getD j false = true ∨ ∃ i, i < l.length ∧ i ≠ j ∧ tk.getD i false = true ∧ lgo ch (l.getD i dSLeg) (l.getD j dSLeg) = true) → Q (kx s)) (hn : 1000000000 < n) :
    Q (loopN (fun (x : Int × List Bool) J' => impl_Earliest_L24 n kx (fun t111 taken112 => J' (t111, taken112)) fr at_ ch (j : Int) t1 t2 (l.length : Int) x.1 l out x.2 (l.getD j dSLeg) o) n ((0 : Int), tk)) := by
  refine loop_runS (enc := fun i (s : List Bool) => (i, s)) (I := fun k s => s.length = l.length ∧ (∀ i, i ≠ j → s.getD i false = tk.getD i false) ∧ (s.getD j false = true ↔ tk.getD j false = true ∨ ∃ i, i < k ∧ i ≠ j ∧ tk.getD i false = true ∧ lgo ch (l.getD i dSLeg) (l.getD j dSLeg) = true)) (len := l.length)
    (fun k s J hk hi => ?_) (fun s J hi => ?_) (by omega) ⟨ht, fun _ _ => rfl, ⟨.inl, fun h => h.elim id fun ⟨i, hi, _⟩ => absurd hi (Nat.not_lt_zero _)⟩⟩
  · have hjs : j < s.length := by rw [hi.1]; exact hj
    have hks : k < s.length := by rw [hi.1]; exact hk
    have e : w64 ((k : Int) + 1) = ((k + 1 : Nat) : Int) := w64_succ (by omega)
    obtain ⟨h1, h2, h3⟩ := hi
    have hset : ∀ b : Bool, (b = true ↔ tk.getD j false = true ∨ ∃ i, i < k + 1 ∧ i ≠ j ∧ tk.getD i false = true ∧ lgo ch (l.getD i dSLeg) (l.getD j dSLeg) = true) → (s.set j b).length = l.length ∧ (∀ i, i ≠ j → (s.set j b).getD i false = tk.getD i false) ∧ ((s.set j b).getD j false = true ↔ tk.getD j false = true ∨ ∃ i, i < k + 1 ∧ i ≠ j ∧ tk.getD i false = true ∧ lgo ch (l.getD i dSLeg) (l.getD j dSLeg) = true) := fun b hb =>
      ⟨by simp [h1], fun i hij => by rw [getD_set_ne hij]; exact h2 i hij, by rw [getD_set hjs]; exact hb⟩
    show ∃ s', _ ∧ impl_Earliest_L24 n kx (fun t111 taken112 => J (t111, taken112)) fr at_ ch (j : Int) t1 t2 (l.length : Int) (k : Int) l out s (l.getD j dSLeg) o = J (((k + 1 : Nat) : Int), s')
    unfold impl_Earliest_L24 impl_Earliest_k0
    simp only [Int.ofNat_lt, hk, decide_true, cond_true, ix_nat hjs, Int.toNat_natCast, chk_dec hjs, ix_nat hks, chk_dec hks, e, bd_eq, ix_nat hk]
    cases hsj : s.getD j false with
    | true =>
      refine ⟨s.set j true, hset true ⟨fun _ => ?_, fun _ => rfl⟩, rfl⟩
      exact (h3.1 hsj).imp id fun ⟨i, hik, h⟩ => ⟨i, by omega, h⟩
    | false =>
      have hno : ¬ (tk.getD j false = true ∨ ∃ i, i < k ∧ i ≠ j ∧ tk.getD i false = true ∧ lgo ch (l.getD i dSLeg) (l.getD j dSLeg) = true) := fun h => by rw [h3.2 h] at hsj; cases hsj
      cases hsk : s.getD k false with
      | false =>
        refine ⟨s.set j false, hset false ⟨fun h => (by cases h), fun h => ?_⟩, rfl⟩
        exfalso
        rcases h with h | ⟨i, hik, hij, hti, hg⟩
        · exact hno (.inl h)
        · by_cases eik : i = k
          · subst eik; rw [h2 _ hij, hti] at hsk; cases hsk
          · exact hno (.inr ⟨i, by omega, hij, hti, hg⟩)
      | true =>
        have hkj : k ≠ j := fun h => by subst h; rw [hsj] at hsk; cases hsk
        rw [changes_eq n (hl k hk) hc]
        simp only [cond_false, cond_true, Option.bind_some]
        refine ⟨s.set j (lgo ch (l.getD k dSLeg) (l.getD j dSLeg)), hset _ ⟨fun h => .inr ⟨k, by omega, hkj, by rw [← h2 k hkj]; exact hsk, h⟩, fun h => ?_⟩, rfl⟩
        rcases h with h | ⟨i, hik, hij, hti, hg⟩
        · exact absurd (.inl h) hno
        · by_cases eik : i = k
          · subst eik; exact hg
          · exact absurd (.inr ⟨i, by omega, hij, hti, hg⟩) hno
  · show Q (impl_Earliest_L24 n kx (fun t111 taken112 => J (t111, taken112)) fr at_ ch (j : Int) t1 t2 (l.length : Int) (l.length : Int) l out s (l.getD j dSLeg) o)
    unfold impl_Earliest_L24
    rw [decide_eq_false (by omega), cond_false]
    exact hq s hi.1 hi.2.1 hi.2.2
end Go.Sm
end

section
set_option linter.unusedSimpArgs false
set_option linter.deprecated false
set_option linter.unusedSectionVars false
set_option linter.unusedVariables false
set_option linter.unusedSimpArgs false
namespace Go.Sm
attribute [local irreducible] bd chk ix loopN
structure OrdIs (l : List SLeg) (o : List Int) : Prop where
  perm : o.Perm (idxs l)
  sorted : o.Pairwise fun x y => ¬ leav l y < leav l x
theorem idxs_len (l : List SLeg) : (idxs l).length = l.length := by simp [idxs]
theorem idxs_nodup (l : List SLeg) : (idxs l).Nodup := by
  unfold idxs List.Nodup
  rw [List.pairwise_map]
  exact List.nodup_range.imp fun h e => h (Int.ofNat.inj e)
theorem OrdIs.len {l : List SLeg} {o : List Int} (h : OrdIs l o) : o.length = l.length := by rw [h.perm.length_eq, idxs_len]
theorem OrdIs.mem {l : List SLeg} {o : List Int} (h : OrdIs l o) {x : Int} : x ∈ o ↔ 0 ≤ x ∧ x < (l.length : Int) := by rw [h.perm.mem_iff, idxs_mem]
theorem OrdIs.at_ {l : List SLeg} {o : List Int} (h : OrdIs l o) {t : Nat} (ht : t < l.length) : ∃ j : Nat, o.getD t 0 = (j : Int) ∧ j < l.length := by
  have := h.mem.1 (getD_mem (d := 0) (show t < o.length by rw [h.len]; exact ht))
  exact ⟨(o.getD t 0).toNat, by omega, by omega⟩
theorem OrdIs.before {l : List SLeg} {o : List Int} (h : OrdIs l o) {t : Nat} (ht : t < l.length) {i j : Nat} (hj : o.getD t 0 = (j : Int)) (hi : i < l.length) (hlt : (l.getD i dSLeg).Leaves < (l.getD j dSLeg).Leaves) : (i : Int) ∈ o.take t := by
  have hto : t < o.length := by rw [h.len]; exact ht
  have hm : (i : Int) ∈ o := h.mem.2 ⟨by omega, by omega⟩
  obtain ⟨u, hu, he⟩ := List.mem_iff_getElem.1 hm
  rw [getD_eq hto] at hj
  by_cases hut : u < t
  · exact List.mem_iff_getElem.2 ⟨u, by simp; omega, by rw [List.getElem_take]; exact he⟩
  · exfalso
    by_cases e : u = t
    · subst e
      rw [he] at hj
      have : i = j := by omega
      subst this
      omega
    · have := List.pairwise_iff_getElem.1 h.sorted t u hto hu (by omega)
      rw [he, hj] at this
      exact this (by unfold leav; rw [Int.toNat_natCast, Int.toNat_natCast]; exact hlt)
theorem OrdIs.new {l : List SLeg} {o : List Int} (h : OrdIs l o) {t : Nat} (ht : t < l.length) {j : Nat} (hj : o.getD t 0 = (j : Int)) : (j : Int) ∉ o.take t := by
  have hto : t < o.length := by rw [h.len]; exact ht
  have hn := h.perm.nodup_iff.2 (idxs_nodup l)
  intro hm
  obtain ⟨u, hu, he⟩ := List.mem_iff_getElem.1 hm
  rw [List.getElem_take] at he
  have hu' : u < t := by simp at hu; omega
  have := List.pairwise_iff_getElem.1 hn u t (by omega) hto hu'
  rw [he, ← getD_eq (d := 0) hto, hj] at this
  exact this rfl
theorem mem_take_succ {o : List Int} {t : Nat} (ht : t < o.length) {x : Int} : x ∈ o.take (t + 1) ↔ x ∈ o.take t ∨ x = o.getD t 0 := by
  rw [take_succ_getD (d := 0) ht, List.mem_append, List.mem_singleton]
open Classical in
theorem take_step {R : Type} {n : Nat} (kx : List Int → Option R) {l : List SLeg} (hl : ∀ k, k < l.length → LegB (l.getD k dSLeg)) (hlen : l.length ≤ 60) {fr at_ ch : Int} (hf : 0 ≤ fr ∧ fr ≤ 19) (ha : 0 ≤ at_) (hc : 0 ≤ ch ∧ ch ≤ 10000) {o : List Int} (ho : OrdIs l o) {t : Nat} (ht : t < l.length) {s : List Int × List Bool} (hi : TakI l fr at_ ch o t s)
    (J : Int × List Int × List Bool → Option R) (hn : 1000000000 < n) :
    ∃ s', TakI l fr at_ ch o (t + 1) s' ∧ impl_Earliest_L19 n kx (fun t120 out121 taken122 => J (t120, out121, taken122)) fr at_ ch (o.length : Int) (t : Int) l s.1 s.2 o = J (((t + 1 : Nat) : Int), s'.1, s'.2) := by
  obtain ⟨j, hj, hjl⟩ := ho.at_ ht
  have hto : t < o.length := by rw [ho.len]; exact ht
  have hjs : j < s.2.length := by rw [hi.tl]; exact hjl
  have e : w64 ((t : Int) + 1) = ((t + 1 : Nat) : Int) := w64_succ (by omega)
  have hB := hl j hjl
  have hnew := ho.new ht hj
  unfold impl_Earliest_L19 impl_Earliest_k2
  rw [decide_eq_true (show (t : Int) < (o.length : Int) by omega), cond_true, ix_nat hto, Int.toNat_natCast, chk_dec hto]
  simp only [hj, ix_nat hjl, Int.toNat_natCast, bd_eq, ix_nat hjs, chk_dec hjs]
  -- what the inner loop leaves
  have key : ∀ (b : Bool), b = lst fr at_ (l.getD j dSLeg) → ∃ s', TakI l fr at_ ch o (t + 1) s' ∧ impl_Earliest_k1 n kx (fun t120 out121 taken122 => J (t120, out121, taken122)) fr at_ ch (j : Int) (o.length : Int) (t : Int) l s.1 (s.2.set j b) (l.getD j dSLeg) o = J (((t + 1 : Nat) : Int), s'.1, s'.2) := by
    intro b hb
    unfold impl_Earliest_k1
    refine take_in (Q := fun r => ∃ s', TakI l fr at_ ch o (t + 1) s' ∧ r = J (((t + 1 : Nat) : Int), s'.1, s'.2)) _ hl hlen hc fr at_ _ _ s.1 o hjl (by simp [hi.tl]) (fun tk h1 h2 h3 => ?_) hn
    have hoth : ∀ i, i ≠ j → tk.getD i false = s.2.getD i false := fun i hij => by rw [h2 i hij, getD_set_ne hij]
    have htj : tk.getD j false = true ↔ Rch l fr at_ ch j := by
      rw [h3, getD_set hjs, hb]
      constructor
      · rintro (h | ⟨i, hil, hij, h, hg⟩)
        · exact .start hjl h
        · rw [getD_set_ne hij] at h
          exact .step ((hi.tk i).1 h).2 hjl hg
      · intro h
        cases h with
        | start h1 h2 => exact .inl h2
        | @step i _ h1 h2 h3 =>
          have hlt := lgo_lt hl hc.1 h1.lt h3
          have hij : i ≠ j := fun e => by subst e; omega
          exact .inr ⟨i, h1.lt, hij, by rw [getD_set_ne hij]; exact (hi.tk i).2 ⟨ho.before ht hj h1.lt hlt, h1⟩, h3⟩
    have htk : ∀ i : Nat, tk.getD i false = true ↔ ((i : Int) ∈ o.take (t + 1) ∧ Rch l fr at_ ch i) := fun i => by
      rw [mem_take_succ hto, hj]
      by_cases hij : i = j
      · subst hij
        rw [htj]
        exact ⟨fun h => ⟨.inr rfl, h⟩, fun h => h.2⟩
      · rw [hoth i hij, hi.tk]
        constructor
        · exact fun h => ⟨.inl h.1, h.2⟩
        · rintro ⟨h | h, hr⟩
          · exact ⟨h, hr⟩
          · exact absurd (by omega) hij
    have hjt : j < tk.length := by rw [h1]; exact hjl
    have hT : (l.getD j dSLeg).To.toNat < s.1.length := by rw [hi.ol]; have := hB.t; omega
    have hTe : (((l.getD j dSLeg).To.toNat : Nat) : Int) = (l.getD j dSLeg).To := by have := hB.t; omega
    -- what becomes of the soonest
    have hbest : ∀ o' : List Int, o'.length = 20 → (∀ p : Nat, p < 20 → o'.getD p 0 = if Rch l fr at_ ch j ∧ (l.getD j dSLeg).To = (p : Int) ∧ (s.1.getD p 0 < 0 ∨ (l.getD j dSLeg).Comes < s.1.getD p 0) then (l.getD j dSLeg).Comes else s.1.getD p 0) → TakI l fr at_ ch o (t + 1) (o', tk) := fun o' hlo hv => by
      refine ⟨h1, htk, hlo, ?_, fun p hp hne => ?_⟩
      · rw [hv _ (by omega), if_neg, hi.oa]
        rintro ⟨hr, _, h | h⟩
        · rw [hi.oa] at h; omega
        · rw [hi.oa] at h
          have := hr.late hl hc.1
          have := hB.lt
          omega
      · rw [hv p hp]
        exact ((hi.best p hp hne).more hl j).congr fun i => by rw [mem_take_succ hto, hj]; constructor <;> rintro (h | h) <;> first | exact .inl h | exact .inr (by omega)
    have hset : ∀ p : Nat, p < 20 → (s.1.set (l.getD j dSLeg).To.toNat (l.getD j dSLeg).Comes).getD p 0 = if (l.getD j dSLeg).To = (p : Int) then (l.getD j dSLeg).Comes else s.1.getD p 0 := fun p hp => by
      by_cases hpe : (l.getD j dSLeg).To = (p : Int)
      · rw [if_pos hpe]
        have : p = (l.getD j dSLeg).To.toNat := by omega
        rw [this]
        exact getD_set hT
      · rw [if_neg hpe]
        exact getD_set_ne (by omega)
    show ∃ s', _ ∧ (ix (j : Int) tk.length (chk (decide ((j : Int).toNat < tk.length)) (bif tk.getD (j : Int).toNat false then _ else _))) = _
    rw [ix_nat hjt, Int.toNat_natCast, chk_dec hjt]
    by_cases hr : Rch l fr at_ ch j
    · rw [htj.2 hr, cond_true, ix_of hB.t.1 (by rw [hi.ol]; have := hB.t; omega), chk_dec hT]
      by_cases hv : s.1.getD (l.getD j dSLeg).To.toNat 0 < 0
      · rw [decide_eq_true hv, cond_true, ix_of hB.t.1 (by rw [hi.ol]; have := hB.t; omega), chk_dec hT, bd_eq, e]
        refine ⟨(_, tk), hbest _ (by simp [hi.ol]) fun p hp => ?_, rfl⟩
        rw [hset p hp]
        by_cases hpe : (l.getD j dSLeg).To = (p : Int)
        · rw [if_pos hpe, if_pos ⟨hr, hpe, .inl (by rw [hpe, Int.toNat_natCast] at hv; exact hv)⟩]
        · rw [if_neg hpe, if_neg (fun h => hpe h.2.1)]
      · rw [decide_eq_false hv, cond_false, ix_of hB.t.1 (by rw [hi.ol]; have := hB.t; omega), chk_dec hT]
        by_cases hv2 : (l.getD j dSLeg).Comes < s.1.getD (l.getD j dSLeg).To.toNat 0
        · rw [decide_eq_true hv2, cond_true, ix_of hB.t.1 (by rw [hi.ol]; have := hB.t; omega), chk_dec hT, bd_eq, e]
          refine ⟨(_, tk), hbest _ (by simp [hi.ol]) fun p hp => ?_, rfl⟩
          rw [hset p hp]
          by_cases hpe : (l.getD j dSLeg).To = (p : Int)
          · rw [if_pos hpe, if_pos ⟨hr, hpe, .inr (by rw [hpe, Int.toNat_natCast] at hv2; exact hv2)⟩]
          · rw [if_neg hpe, if_neg (fun h => hpe h.2.1)]
        · rw [decide_eq_false hv2, cond_false, e]
          refine ⟨(_, tk), hbest _ hi.ol fun p hp => ?_, rfl⟩
          rw [if_neg]
          rintro ⟨_, hpe, h⟩
          rw [hpe, Int.toNat_natCast] at hv hv2
          exact h.elim hv hv2
    · have hf' : tk.getD j false = false := by
        cases h : tk.getD j false with
        | false => rfl
        | true => exact absurd (htj.1 h) hr
      rw [hf', cond_false, e]
      refine ⟨(_, tk), hbest _ hi.ol fun p hp => ?_, rfl⟩
      rw [if_neg (fun h => hr h.1)]
  by_cases hfr : (l.getD j dSLeg).From = fr
  · rw [decide_eq_true hfr, cond_true]
    exact key _ (by unfold lst; rw [decide_eq_true hfr, Bool.true_and])
  · rw [decide_eq_false hfr, cond_false]
    exact key _ (by unfold lst; rw [decide_eq_false hfr, Bool.false_and])
theorem earl_impl {n : Nat} (l : List SLeg) (fr at_ ch : Int) (hl : l.length ≤ 1048576) (hn : 1000000000 < n) :
    (earlOk l fr at_ ch = false ∧ impl_Earliest n l fr at_ ch = some ([], false)) ∨ (earlOk l fr at_ ch = true ∧ ∃ e, impl_Earliest n l fr at_ ch = some (e, true) ∧ EarlIs l fr at_ ch e) := by
  unfold impl_Earliest
  rw [right_impl l fr at_ ch hl hn, Option.bind_some]
  cases h : earlOk l fr at_ ch with
  | false => exact .inl ⟨rfl, rfl⟩
  | true =>
    right
    refine ⟨rfl, ?_⟩
    obtain ⟨h1, h2, h3, h4⟩ := earlOk_is h
    obtain ⟨hlen, hb⟩ := legs_at h1
    simp only [Bool.not_true, cond_false]
    unfold impl_Earliest_k3
    have hfr : fr.toNat < 20 := by omega
    refine loop_runS (enc := fun i (s : List Int) => (i, s)) (I := fun k s => s.length = 20 ∧ ∀ p, p < k → s.getD p 0 = -1) (Q := fun r => ∃ e, r = some (e, true) ∧ EarlIs l fr at_ ch e) (len := 20)
      (fun k s J hk hi => ⟨s.set k (-1), ⟨by simp [hi.1], fun p hp => ?_⟩, ?_⟩) (fun s J hi => ?_) (by omega) ⟨by simp, fun p hp => absurd hp (Nat.not_lt_zero _)⟩
    · by_cases e : p = k
      · subst e; exact getD_set (by rw [hi.1]; exact hk)
      · rw [getD_set_ne e]; exact hi.2 p (by omega)
    · have hks : k < s.length := by rw [hi.1]; exact hk
      have e : w64 ((k : Int) + 1) = ((k + 1 : Nat) : Int) := w64_succ (by omega)
      show impl_Earliest_L5 n _ (fun t125 out126 => J (t125, out126)) fr at_ ch _ (k : Int) l s = _
      unfold impl_Earliest_L5
      rw [decide_eq_true (by simp; omega), cond_true, ix_nat hks, Int.toNat_natCast, chk_dec hks, bd_eq, e]
    · show ∃ e, impl_Earliest_L5 n _ (fun t125 out126 => J (t125, out126)) fr at_ ch _ 20 l s = _ ∧ _
      unfold impl_Earliest_L5
      have hfs : fr.toNat < s.length := by rw [hi.1]; exact hfr
      rw [decide_eq_false (by simp), cond_false]
      show ∃ e, (ix fr s.length (chk (decide (fr.toNat < s.length)) _)) = some (e, true) ∧ _
      rw [ix_of h2.1 (by rw [hi.1]; omega), chk_dec hfs, chk_dec (by omega), chk_dec (by omega), chk_dec (by omega)]
      refine loop_runS (enc := fun i (s : List Int) => (i, s)) (I := fun k s => s.length = l.length ∧ ∀ p : Nat, p < k → s.getD p 0 = (p : Int)) (Q := fun r => ∃ e, r = some (e, true) ∧ EarlIs l fr at_ ch e) (len := l.length)
        (fun k o J hk hi => ⟨o.set k (k : Int), ⟨by simp [hi.1], fun p hp => ?_⟩, ?_⟩) (fun o J hio => ?_) (by omega) ⟨by simp, fun p hp => absurd hp (Nat.not_lt_zero _)⟩
      · by_cases e : p = k
        · subst e; exact getD_set (by rw [hi.1]; exact hk)
        · rw [getD_set_ne e]; exact hi.2 p (by omega)
      · have hks : k < o.length := by rw [hi.1]; exact hk
        have e : w64 ((k : Int) + 1) = ((k + 1 : Nat) : Int) := w64_succ (by omega)
        show impl_Earliest_L12 n _ (fun t123 order124 => J (t123, order124)) fr at_ ch _ (k : Int) l _ o = _
        unfold impl_Earliest_L12
        rw [decide_eq_true (by simp; omega), cond_true, ix_nat hks, Int.toNat_natCast, chk_dec hks, e]
      · have ho : o = idxs l := by
          apply List.ext_getElem (by rw [hio.1, idxs_len])
          intro i g1 g2
          rw [← getD_eq (d := 0) g1, hio.2 i (by rw [← hio.1]; exact g1)]
          simp [idxs]
        subst ho
        show ∃ e, impl_Earliest_L12 n _ (fun t123 order124 => J (t123, order124)) fr at_ ch _ (l.length : Int) l _ (idxs l) = _ ∧ _
        unfold impl_Earliest_L12
        rw [decide_eq_false (by simp), cond_false]
        obtain ⟨o, g1, g2, g3⟩ := sort_legs n hlen
        show ∃ e, (slices_SortFunc_int_int__impl_Earliest_1 n (idxs l) l).bind _ = some (e, true) ∧ _
        rw [g1, Option.bind_some, chk_dec (by omega), chk_dec (by omega), chk_dec (by omega)]
        have hO : OrdIs l o := ⟨g2, g3⟩
        refine loop_runS (enc := fun i (s : List Int × List Bool) => (i, s.1, s.2)) (I := fun k s => TakI l fr at_ ch o k s) (Q := fun r => ∃ e, r = some (e, true) ∧ EarlIs l fr at_ ch e) (len := l.length)
          (fun k s J hk hi => take_step _ hb hlen h2 h3.1 h4 hO hk hi J hn) (fun s2 J hi2 => ?_) (by omega) (s0 := (s.set fr.toNat at_, List.replicate (l.length : Int).toNat false)) ⟨by simp, fun i => ?_, by simp [hi.1], getD_set hfs, fun p hp hne => ?_⟩
        · show ∃ e, impl_Earliest_L19 n _ (fun t120 out121 taken122 => J (t120, out121, taken122)) fr at_ ch (o.length : Int) (l.length : Int) l s2.1 s2.2 o = _ ∧ _
          unfold impl_Earliest_L19
          rw [decide_eq_false (by rw [hO.len]; omega), cond_false]
          refine ⟨_, rfl, hi2.ol, hi2.oa, fun p hp hne => (hi2.best p hp hne).congr fun i => ?_⟩
          rw [List.take_of_length_le (by rw [hO.len]; exact Nat.le_refl _), hO.mem]
          omega
        · constructor
          · intro h; simp [List.getD_eq_getElem?_getD, List.getElem?_replicate] at h; split at h <;> cases h
          · rintro ⟨h, _⟩; simp at h
        · refine .inl ⟨?_, fun i h => by simp at h⟩
          rw [getD_set_ne (by omega)]
          exact hi.2 p hp
end Go.Sm
end

section
set_option linter.unusedSimpArgs false
set_option linter.deprecated false
set_option linter.unusedSectionVars false
set_option linter.unusedVariables false
set_option linter.unusedSimpArgs false
namespace Go.Sm
attribute [local irreducible] bd chk ix loopN
/-! ### Ways: legs that come to the end by so many more -/
section
variable (l : List SLeg) (to when ch : Int)
def endsF : Nat → Nat → Bool
  | 0, i => decide ((l.getD i dSLeg).To = to) && decide ((l.getD i dSLeg).Comes = when)
  | k + 1, i => (List.range l.length).any fun j => endsF k j && lgo ch (l.getD i dSLeg) (l.getD j dSLeg)
/-- The first way of k + 1 legs. -/
def greL : Nat → (Nat → Bool) → List Int
  | 0, may => match (List.range l.length).find? fun j => may j && endsF l to when ch 0 j with
    | some j => [(j : Int)]
    | none => []
  | k + 1, may => match (List.range l.length).find? fun j => may j && endsF l to when ch (k + 1) j with
    | some j => (j : Int) :: greL k fun x => lgo ch (l.getD j dSLeg) (l.getD x dSLeg)
    | none => []
end
def mayS (l : List SLeg) (port at_ service ch : Int) (j : Nat) : Bool := decide ((l.getD j dSLeg).From = port) && decide (at_ + (if service = 0 ∨ service = (l.getD j dSLeg).Service then 0 else ch) ≤ (l.getD j dSLeg).Leaves)
theorem mayS_leg {l : List SLeg} {i : Nat} (hB : LegB (l.getD i dSLeg)) (ch : Int) : mayS l (l.getD i dSLeg).To (l.getD i dSLeg).Comes (l.getD i dSLeg).Service ch = fun x => lgo ch (l.getD i dSLeg) (l.getD x dSLeg) := by
  funext x
  have h0 : (l.getD i dSLeg).Service ≠ 0 := by have := hB.s; omega
  unfold mayS lgo
  simp only [h0, false_or]
  congr 1
  simp only [decide_eq_decide]
  exact eq_comm
theorem any_comm2 {p q : Nat → Bool} {m : Nat} : ((List.range m).any fun j => p j && q j) = (List.range m).any fun j => q j && p j := by
  congr 1; funext j; exact Bool.and_comm _ _
theorem find_any {p : Nat → Bool} {m : Nat} (h : (List.range m).any p = true) : ∃ k, (List.range m).find? p = some k ∧ k < m ∧ p k = true := by
  rcases find_range p m with ⟨_, h2⟩ | ⟨k, h1, h2, h3, _⟩
  · obtain ⟨x, h3, h4⟩ := List.any_eq_true.1 h
    rw [h2 x (List.mem_range.1 h3)] at h4; cases h4
  · exact ⟨k, h1, h2, h3⟩
theorem find_not_any {p : Nat → Bool} {m : Nat} (h : (List.range m).any p = false) : (List.range m).find? p = none := find_range_none fun j hj => by
  have := List.any_eq_false.1 h j (List.mem_range.2 hj)
  simpa using this
theorem greL_none {l : List SLeg} {to when ch : Int} {k : Nat} {may : Nat → Bool} (h : ((List.range l.length).any fun j => may j && endsF l to when ch k j) = false) : greL l to when ch k may = [] := by
  cases k with
  | zero => unfold greL; rw [find_not_any h]
  | succ k => unfold greL; rw [find_not_any h]
theorem greL_some {l : List SLeg} {to when ch : Int} {k j : Nat} {may : Nat → Bool} (h : ((List.range l.length).find? fun j => may j && endsF l to when ch (k + 1) j) = some j) : greL l to when ch (k + 1) may = (j : Int) :: greL l to when ch k (fun x => lgo ch (l.getD j dSLeg) (l.getD x dSLeg)) := by
  rw [greL, h]
theorem greL_one {l : List SLeg} {to when ch : Int} {j : Nat} {may : Nat → Bool} (h : ((List.range l.length).find? fun j => may j && endsF l to when ch 0 j) = some j) : greL l to when ch 0 may = [(j : Int)] := by
  rw [greL, h]
theorem greL_len {l : List SLeg} {to when ch : Int} : ∀ {k : Nat} {may : Nat → Bool}, ((List.range l.length).any fun j => may j && endsF l to when ch k j) = true → (greL l to when ch k may).length = k + 1
  | 0, may, h => by
    obtain ⟨j, h1, _, _⟩ := find_any h
    unfold greL; rw [h1]; rfl
  | k + 1, may, h => by
    obtain ⟨j, h1, _, h3⟩ := find_any h
    unfold greL
    rw [h1]
    simp only [Bool.and_eq_true] at h3
    have h4 := h3.2
    unfold endsF at h4
    rw [any_comm2] at h4
    simp only [List.length_cons]
    rw [greL_len h4]
theorem seek_spec {n : Nat} {l : List SLeg} (hl : ∀ k, k < l.length → LegB (l.getD k dSLeg)) (hlen : l.length ≤ 60) {to when ch : Int} (hc : 0 ≤ ch ∧ ch ≤ 10000) (hn : 1000000000 < n) :
    ∀ (k m : Nat) (so : List Int) (port at_ service : Int), k < m → so.length + k ≤ 1000 → (0 ≤ at_ ∧ at_ ≤ 100000000) →
    spec_l22Seek_r n m l so port at_ service to when ch ((k + 1 : Nat) : Int) = some (if ((List.range l.length).any fun j => mayS l port at_ service ch j && endsF l to when ch k j) = true then (so ++ greL l to when ch k (mayS l port at_ service ch), true) else ([], false)) := by
  intro k
  induction k with
  | zero =>
    intro m so port at_ service hm hso ha
    obtain ⟨m, rfl⟩ : ∃ m', m = m' + 1 := ⟨m - 1, by omega⟩
    show spec_l22Seek_b n (spec_l22Seek_r n m) l so port at_ service to when ch _ = _
    unfold spec_l22Seek_b
    rw [loop_find (len := l.length) (p := fun j => mayS l port at_ service ch j && endsF l to when ch 0 j) (yes := fun j => some (so ++ [(j : Int)], true)) (no := some ([], false)) (by omega) (fun i J hi _ => ?_) (fun J _ => ?_) (by omega)]
    · cases h : (List.range l.length).any fun j => mayS l port at_ service ch j && endsF l to when ch 0 j with
      | true =>
        obtain ⟨j, h1, _, _⟩ := find_any h
        unfold greL
        rw [h1]; rfl
      | false => rw [find_not_any h]; rfl
    · have e : w64 ((i : Int) + 1) = ((i + 1 : Nat) : Int) := w64_succ (by omega)
      unfold spec_l22Seek_L2 spec_l22Seek_k1 mayS
      rw [decide_eq_true (show (i : Int) < (l.length : Int) by omega), cond_true, ix_nat hi, Int.toNat_natCast, bd_eq]
      by_cases hp : (l.getD i dSLeg).From = port
      · rw [decide_eq_true hp, Bool.not_true, cond_false, may_eq n ha hc, Option.bind_some]
        by_cases hm : at_ + (if service = 0 ∨ service = (l.getD i dSLeg).Service then 0 else ch) ≤ (l.getD i dSLeg).Leaves
        · rw [decide_eq_true hm, Bool.not_true, cond_false]
          unfold spec_l22Seek_k0 endsF
          rw [chk_dec (by omega), chk_dec (by simp; omega), decide_eq_true (show (((0 + 1 : Nat) : Int) = 1) by omega), cond_true, e]
          generalize decide ((l.getD i dSLeg).To = to) = b1
          generalize decide ((l.getD i dSLeg).Comes = when) = b2
          cases b1 <;> cases b2 <;> rfl
        · rw [decide_eq_false hm, e]; simp
      · rw [decide_eq_false hp, e]; simp
    · unfold spec_l22Seek_L2
      rw [decide_eq_false (by omega), cond_false]
  | succ k ih =>
    intro m so port at_ service hm hso ha
    obtain ⟨m, rfl⟩ : ∃ m', m = m' + 1 := ⟨m - 1, by omega⟩
    show spec_l22Seek_b n (spec_l22Seek_r n m) l so port at_ service to when ch _ = _
    unfold spec_l22Seek_b
    rw [loop_find (len := l.length) (p := fun j => mayS l port at_ service ch j && endsF l to when ch (k + 1) j) (yes := fun j => some (so ++ (j : Int) :: greL l to when ch k (fun x => lgo ch (l.getD j dSLeg) (l.getD x dSLeg)), true)) (no := some ([], false)) (by omega) (fun i J hi _ => ?_) (fun J _ => ?_) (by omega)]
    · cases h : (List.range l.length).any fun j => mayS l port at_ service ch j && endsF l to when ch (k + 1) j with
      | true =>
        obtain ⟨j, h1, _, _⟩ := find_any h
        rw [h1, greL_some h1]; rfl
      | false => rw [find_not_any h]; rfl
    · have e : w64 ((i : Int) + 1) = ((i + 1 : Nat) : Int) := w64_succ (by omega)
      have e3 : w64 ((((k + 1 : Nat) + 1 : Nat) : Int) - 1) = ((k + 1 : Nat) : Int) := by rw [w64_id (by omega) (by omega)]; omega
      have hB := hl i hi
      unfold spec_l22Seek_L2 spec_l22Seek_k1 mayS
      rw [decide_eq_true (show (i : Int) < (l.length : Int) by omega), cond_true, ix_nat hi, Int.toNat_natCast, bd_eq]
      by_cases hp : (l.getD i dSLeg).From = port
      · rw [decide_eq_true hp, Bool.not_true, cond_false, may_eq n ha hc, Option.bind_some]
        by_cases hm : at_ + (if service = 0 ∨ service = (l.getD i dSLeg).Service then 0 else ch) ≤ (l.getD i dSLeg).Leaves
        · rw [decide_eq_true hm, Bool.not_true, cond_false]
          unfold spec_l22Seek_k0
          rw [chk_dec (by omega), chk_dec (by simp; omega), decide_eq_false (show ¬ (((k + 1 : Nat) + 1 : Nat) : Int) = 1 by omega), cond_false, bd_eq, e3,
            ih m (so ++ [(i : Int)]) _ _ _ (by omega) (by simp; omega) hB.c, Option.bind_some, mayS_leg hB ch]
          rw [any_comm2, show ((List.range l.length).any fun j => endsF l to when ch k j && lgo ch (l.getD i dSLeg) (l.getD j dSLeg)) = endsF l to when ch (k + 1) i from rfl]
          cases endsF l to when ch (k + 1) i with
          | true => simp
          | false => simp [e]
        · rw [decide_eq_false hm, e]; simp
      · rw [decide_eq_false hp, e]; simp
    · unfold spec_l22Seek_L2
      rw [decide_eq_false (by omega), cond_false]
/-- What each number of legs answers. -/
def wayF (l : List SLeg) (fr to at_ ch when : Int) (k : Nat) : Option (Option (List Int × Bool)) :=
  if ((List.range l.length).any fun j => mayS l fr at_ 0 ch j && endsF l to when ch k j) = true then some (some (greL l to when ch k (mayS l fr at_ 0 ch), true)) else none
def travelR (l : List SLeg) (fr to at_ ch : Int) (e : List Int) : Option (List Int × Bool) :=
  bif decide (e.getD to.toNat 0 < 0) then some ([], false) else bif decide (fr = to) then some ([], true) else scanK (wayF l fr to at_ ch (e.getD to.toNat 0)) (some ([], false)) 6 0
theorem ways_spec {n : Nat} {l : List SLeg} (hl : ∀ k, k < l.length → LegB (l.getD k dSLeg)) (hlen : l.length ≤ 60) {fr to at_ ch : Int} (ha : 0 ≤ at_ ∧ at_ ≤ 100000000) (hc : 0 ≤ ch ∧ ch ≤ 10000) {e : List Int} (he : e.length = 20) (ht : 0 ≤ to ∧ to ≤ 19) (hn : 1000000000 < n) :
    loopN (fun (x : Int) J' => spec_Travel_L7 n (some ([], false)) (fun t33 t34 => some (t34, t33)) J' l fr to at_ ch x e) n (1 : Int) = scanK (wayF l fr to at_ ch (e.getD to.toNat 0)) (some ([], false)) 6 0 := by
  refine loop_scan (enc := fun k => ((k + 1 : Nat) : Int)) (len := 6) (fun k J hk => ?_) (fun J => ?_) 6 0 n (by omega) (by omega)
  · have e1 : w64 (((k + 1 : Nat) : Int) + 1) = ((k + 1 + 1 : Nat) : Int) := w64_succ (by omega)
    unfold spec_Travel_L7
    rw [decide_eq_true (show ((k + 1 : Nat) : Int) ≤ 6 by omega), cond_true, ix_of ht.1 (by rw [he]; omega), chk_dec (by rw [he]; omega)]
    unfold spec_l22Seek
    rw [seek_spec hl hlen hc hn k n [] fr at_ 0 (by omega) (by simp; omega) ha, Option.bind_some, e1]
    unfold wayF
    split <;> simp
  · unfold spec_Travel_L7
    rw [decide_eq_false (by omega), cond_false]
theorem travel_spec {n : Nat} (l : List SLeg) (fr to at_ ch : Int) (hl : l.length ≤ 1048576) (hn : 1000000000 < n) :
    (earlOk l fr at_ ch && decide (0 ≤ to ∧ to ≤ 19)) = false ∧ spec_Travel n l fr to at_ ch = some ([], false) ∨ (earlOk l fr at_ ch && decide (0 ≤ to ∧ to ≤ 19)) = true ∧ ∃ e, EarlIs l fr at_ ch e ∧ spec_Travel n l fr to at_ ch = travelR l fr to at_ ch e := by
  unfold spec_Travel
  rcases earl_spec l fr at_ ch hl hn with ⟨h1, h2⟩ | ⟨h1, e, h2, h3⟩
  · left
    rw [h1, h2]
    exact ⟨rfl, rfl⟩
  · rw [h1, h2, Option.bind_some, in_spec4]
    by_cases ht : 0 ≤ to ∧ to ≤ 19
    · right
      refine ⟨by simp [ht], e, h3, ?_⟩
      obtain ⟨g1, g2, g3, g4⟩ := earlOk_is h1
      obtain ⟨hlen, hb⟩ := legs_at g1
      simp only [ht, and_self, decide_true, Bool.not_true, cond_false, Option.bind_some]
      rw [ix_of ht.1 (by rw [h3.len]; omega), chk_dec (by rw [h3.len]; omega)]
      unfold travelR
      cases decide (e.getD to.toNat 0 < 0) with
      | true => rfl
      | false =>
        cases decide (fr = to) with
        | true => rfl
        | false => exact ways_spec hb hlen g3 g4 h3.len ht hn
    · left
      exact ⟨by simp [ht], by simp [ht]⟩
end Go.Sm
end

section
set_option linter.unusedSimpArgs false
set_option linter.deprecated false
set_option linter.unusedSectionVars false
set_option linter.unusedVariables false
set_option linter.unusedSimpArgs false
namespace Go.Sm
attribute [local irreducible] bd chk ix loopN
/-! ### The second function's ways -/
theorem may_nil {n : Nat} {l : List SLeg} {fr at_ ch : Int} {j : Nat} (hj : j < l.length) : impl_Travel_1 n (j : Int) [] l fr at_ ch = some (mayS l fr at_ 0 ch j) := by
  unfold impl_Travel_1 mayS
  simp only [List.length_nil, Int.ofNat_zero, decide_true, cond_true, ix_nat hj, Int.toNat_natCast, bd_eq, true_or, if_true, Int.add_zero]
  cases decide ((l.getD j dSLeg).From = fr) <;> rfl
theorem may_app {n : Nat} {l : List SLeg} (hl : ∀ k, k < l.length → LegB (l.getD k dSLeg)) {fr at_ ch : Int} (hc : 0 ≤ ch ∧ ch ≤ 10000) {i j : Nat} (hi : i < l.length) (hj : j < l.length) {c : List Int} (hcl : c.length ≤ 1000) : impl_Travel_1 n (j : Int) (c ++ [(i : Int)]) l fr at_ ch = some (lgo ch (l.getD i dSLeg) (l.getD j dSLeg)) := by
  have e1 : ((c ++ [(i : Int)]).length : Int) = (c.length : Int) + 1 := by simp
  have e2 : w64 ((c.length : Int) + 1 - 1) = (c.length : Int) := by rw [w64_id (by omega) (by omega)]; omega
  have e3 : (c ++ [(i : Int)]).getD c.length 0 = (i : Int) := by simp [List.getD_eq_getElem?_getD]
  unfold impl_Travel_1 impl_Travel_1_k0
  rw [e1, decide_eq_false (by omega), cond_false, e2, bd_eq, ix_nat (by simp), Int.toNat_natCast, e3, ix_nat hi, Int.toNat_natCast, bd_eq, ix_nat hj, Int.toNat_natCast, bd_eq, changes_eq n (hl i hi) hc]
  rfl
def rowE (l : List SLeg) (to when ch : Int) (q : Nat) : List Bool := (List.range l.length).map (endsF l to when ch q)
def rowsE (l : List SLeg) (to when ch : Int) (m : Nat) : List (List Bool) := (List.range m).map (rowE l to when ch)
theorem rowE_len (l : List SLeg) (to when ch : Int) (q : Nat) : (rowE l to when ch q).length = l.length := by simp [rowE]
theorem rowE_at {l : List SLeg} {to when ch : Int} {q j : Nat} (hj : j < l.length) : (rowE l to when ch q).getD j false = endsF l to when ch q j := by
  rw [getD_eq (by rw [rowE_len]; exact hj)]; simp [rowE]
theorem rowsE_len (l : List SLeg) (to when ch : Int) (m : Nat) : (rowsE l to when ch m).length = m := by simp [rowsE]
theorem rowsE_at {l : List SLeg} {to when ch : Int} {m q : Nat} (hq : q < m) : (rowsE l to when ch m).getD q [] = rowE l to when ch q := by
  rw [getD_eq (by rw [rowsE_len]; exact hq)]; simp [rowsE]
theorem rowsE_succ (l : List SLeg) (to when ch : Int) (m : Nat) : rowsE l to when ch (m + 1) = rowsE l to when ch m ++ [rowE l to when ch m] := by
  unfold rowsE; rw [List.range_succ, List.map_append]; rfl
theorem row_ext {l : List SLeg} {to when ch : Int} {q : Nat} {s : List Bool} (hs : s.length = l.length) (h : ∀ i, i < l.length → s.getD i false = endsF l to when ch q i) : s = rowE l to when ch q := by
  apply List.ext_getElem (by rw [hs, rowE_len])
  intro i h1 h2
  rw [← getD_eq (d := false) h1, ← getD_eq (d := false) h2, h i (by omega), rowE_at (by omega)]
theorem way_turn {R : Type} {n : Nat} (kx : List Int → Option R) {l : List SLeg} (hlen : l.length ≤ 60) {fr to at_ ch when : Int} (nn : Int) {m k : Nat} (hk : k < m) (hm : m ≤ 100) {c : List Int} {may : Nat → Bool} (hmay : ∀ j, j < l.length → impl_Travel_1 n (j : Int) c l fr at_ ch = some (may j)) (J : Int × List Int → Option R) (hc : c.length ≤ 1000) (hn : 1000000000 < n) :
    impl_Travel_L18 n kx (fun k124 c125 => J (k124, c125)) nn (k : Int) l fr at_ ch (rowsE l to when ch m) c = match (List.range l.length).find? (fun j => may j && endsF l to when ch k j) with
      | some j => J ((k : Int) - 1, c ++ [(j : Int)])
      | none => kx c := by
  have e : w64 ((k : Int) - 1) = (k : Int) - 1 := w64_id (by omega) (by omega)
  have hkr : k < (rowsE l to when ch m).length := by rw [rowsE_len]; exact hk
  unfold impl_Travel_L18
  rw [decide_eq_true (show (k : Int) ≥ 0 by omega), cond_true]
  unfold impl_Travel_k1
  refine Eq.trans (loop_find (len := l.length) (p := fun j => may j && endsF l to when ch k j) (yes := fun j => J ((k : Int) - 1, c ++ [(j : Int)])) (no := kx c) (by omega) (fun i J' hi _ => ?_) (fun J' _ => ?_) (by omega)) ?_
  · have e1 : w64 ((i : Int) + 1) = ((i + 1 : Nat) : Int) := w64_succ (by omega)
    have hir : i < (rowE l to when ch k).length := by rw [rowE_len]; exact hi
    unfold impl_Travel_L21
    rw [decide_eq_true (show (i : Int) < (l.length : Int) by omega), cond_true, ix_nat hkr, Int.toNat_natCast, chk_dec hkr, chk_dec hkr, rowsE_at hk, ix_nat hir, chk_dec hkr, Int.toNat_natCast, chk_dec hir, rowE_at hi, e1]
    cases endsF l to when ch k i with
    | false => simp
    | true =>
      simp only [cond_true, Bool.and_true]
      rw [hmay i hi, Option.bind_some]
      cases may i with
      | false => rfl
      | true =>
        simp only [Bool.not_true, cond_false, cond_true]
        rw [decide_eq_false (by omega), cond_false, chk_dec (by simp; omega), e]
  · unfold impl_Travel_L21
    rw [decide_eq_false (by omega), cond_false]
    show (bif decide ((l.length : Int) = (l.length : Int)) then kx c else _) = _
    rw [decide_eq_true rfl, cond_true]
  · cases (List.range l.length).find? (fun j => may j && endsF l to when ch k j) <;> rfl
theorem way_impl {R : Type} {n : Nat} (kx : List Int → Option R) {l : List SLeg} (hl : ∀ k, k < l.length → LegB (l.getD k dSLeg)) (hlen : l.length ≤ 60) {fr to at_ ch when : Int} (hc : 0 ≤ ch ∧ ch ≤ 10000) (nn : Int) {m : Nat} (hm : m ≤ 100) (hn : 1000000000 < n) :
    ∀ (k : Nat) (c : List Int) (may : Nat → Bool) (fuel : Nat), k < m → k + 1 < fuel → (∀ j, j < l.length → impl_Travel_1 n (j : Int) c l fr at_ ch = some (may j)) → c.length + k ≤ 900 →
    loopN (fun (x : Int × List Int) J' => impl_Travel_L18 n kx (fun k124 c125 => J' (k124, c125)) nn x.1 l fr at_ ch (rowsE l to when ch m) x.2) fuel ((k : Int), c) = kx (c ++ greL l to when ch k may) := by
  intro k
  induction k with
  | zero =>
    intro c may fuel hk hf hmay hcl
    obtain ⟨fuel, rfl⟩ : ∃ f, fuel = f + 1 + 1 := ⟨fuel - 2, by omega⟩
    rw [loopN_succ, way_turn kx hlen nn hk hm hmay _ (by omega) hn]
    cases h : (List.range l.length).find? (fun j => may j && endsF l to when ch 0 j) with
    | none => rw [greL, h]; simp
    | some j =>
      rw [greL_one h]
      show loopN _ (fuel + 1) _ = _
      rw [loopN_succ]
      unfold impl_Travel_L18
      rw [decide_eq_false (by omega), cond_false]
  | succ k ih =>
    intro c may fuel hk hf hmay hcl
    obtain ⟨fuel, rfl⟩ : ∃ f, fuel = f + 1 := ⟨fuel - 1, by omega⟩
    rw [loopN_succ, way_turn kx hlen nn hk hm hmay _ (by omega) hn]
    cases h : (List.range l.length).find? (fun j => may j && endsF l to when ch (k + 1) j) with
    | none => rw [greL, h]; simp
    | some j =>
      have hj : j < l.length := List.mem_range.1 (List.mem_of_find?_eq_some h)
      rw [greL_some h]
      show loopN _ fuel _ = _
      rw [show ((k + 1 : Nat) : Int) - 1 = (k : Int) by omega, ih (c ++ [(j : Int)]) (fun x => lgo ch (l.getD j dSLeg) (l.getD x dSLeg)) fuel (by omega) (by omega) (fun x hx => may_app hl hc hj hx (by omega)) (by simp; omega)]
      simp
theorem own_ints (n : Nat) (c : List Int) (h : c.length ≤ 1000) : impl_own_int n c = some c := by
  unfold impl_own_int
  rw [chk_dec (by omega), chk_dec (by omega), chk_dec (by omega)]
/-- One row more. -/
theorem row_in {R : Type} {n : Nat} (kx : List Bool → Option R) {l : List SLeg} (hl : ∀ k, k < l.length → LegB (l.getD k dSLeg)) (hlen : l.length ≤ 60) {fr to at_ ch when : Int} (hc : 0 ≤ ch ∧ ch ≤ 10000) {m q : Nat} (hq : q < m) {i : Nat} (hi : i < l.length) (t1 t2 : Int) {s0 : List Bool} (hs0 : s0.length = l.length) (h0 : s0.getD i false = false) {Q : Option R → Prop}
    (hq' : ∀ s : List Bool, s.length = l.length → (∀ x, x ≠ i → s.getD x false = s0.getD x false) → s.getD i false = endsF l to when ch (q + 1) i → Q (kx s)) (hn : 1000000000 < n) :
    Q (loopN (fun (x : Int × List Bool) J' => impl_Travel_L32 n kx (fun t117 next118 => J' (t117, next118)) (q : Int) (i : Int) t1 t2 (l.length : Int) x.1 l fr at_ ch (rowsE l to when ch m) x.2) n ((0 : Int), s0)) := by
  have hqr : q < (rowsE l to when ch m).length := by rw [rowsE_len]; exact hq
  refine loop_runS (enc := fun i (s : List Bool) => (i, s)) (I := fun k s => s.length = l.length ∧ (∀ x, x ≠ i → s.getD x false = s0.getD x false) ∧ s.getD i false = (List.range k).any fun j => endsF l to when ch q j && lgo ch (l.getD i dSLeg) (l.getD j dSLeg)) (len := l.length)
    (fun k s J hk hI => ?_) (fun s J hI => ?_) (by omega) ⟨hs0, fun _ _ => rfl, h0⟩
  · obtain ⟨h1, h2, h3⟩ := hI
    have his : i < s.length := by rw [h1]; exact hi
    have hkr : k < (rowE l to when ch q).length := by rw [rowE_len]; exact hk
    have e : w64 ((k : Int) + 1) = ((k + 1 : Nat) : Int) := w64_succ (by omega)
    have hset : ∀ b : Bool, (b = ((List.range (k + 1)).any fun j => endsF l to when ch q j && lgo ch (l.getD i dSLeg) (l.getD j dSLeg))) → (s.set i b).length = l.length ∧ (∀ x, x ≠ i → (s.set i b).getD x false = s0.getD x false) ∧ (s.set i b).getD i false = (List.range (k + 1)).any fun j => endsF l to when ch q j && lgo ch (l.getD i dSLeg) (l.getD j dSLeg) := fun b hb =>
      ⟨by simp [h1], fun x hx => by rw [getD_set_ne hx]; exact h2 x hx, by rw [getD_set his]; exact hb⟩
    show ∃ s', _ ∧ impl_Travel_L32 n kx (fun t117 next118 => J (t117, next118)) (q : Int) (i : Int) t1 t2 (l.length : Int) (k : Int) l fr at_ ch (rowsE l to when ch m) s = J (((k + 1 : Nat) : Int), s')
    unfold impl_Travel_L32 impl_Travel_k2
    rw [decide_eq_true (show (k : Int) < (l.length : Int) by omega), cond_true, ix_nat his, Int.toNat_natCast, chk_dec his]
    cases hsi : s.getD i false with
    | true =>
      rw [cond_true, ix_nat his, chk_dec his, e]
      refine ⟨s.set i true, hset true ?_, rfl⟩
      rw [any_range_succ, ← h3, hsi, Bool.true_or]
    | false =>
      rw [cond_false, ix_nat hqr, Int.toNat_natCast, chk_dec hqr, chk_dec hqr, rowsE_at hq, ix_nat hkr, chk_dec hqr, Int.toNat_natCast, chk_dec hkr, rowE_at hk]
      cases hE : endsF l to when ch q k with
      | true =>
        rw [cond_true, ix_nat hi, bd_eq, ix_nat hk, bd_eq, changes_eq n (hl i hi) hc, Option.bind_some, ix_nat his, chk_dec his, e]
        refine ⟨s.set i (lgo ch (l.getD i dSLeg) (l.getD k dSLeg)), hset _ ?_, rfl⟩
        rw [any_range_succ, ← h3, hsi, hE, Bool.false_or, Bool.true_and]
      | false =>
        rw [cond_false, ix_nat his, chk_dec his, bd_eq, e]
        refine ⟨s.set i false, hset _ ?_, rfl⟩
        rw [any_range_succ, ← h3, hsi, hE]; rfl
  · show Q (impl_Travel_L32 n kx (fun t117 next118 => J (t117, next118)) (q : Int) (i : Int) t1 t2 (l.length : Int) (l.length : Int) l fr at_ ch (rowsE l to when ch m) s)
    unfold impl_Travel_L32
    rw [decide_eq_false (by omega), cond_false]
    exact hq' s hI.1 hI.2.1 hI.2.2
theorem row_more {R : Type} {n : Nat} (kx2 : Option R) (kxr : Bool → List Int → Option R) {l : List SLeg} (hl : ∀ k, k < l.length → LegB (l.getD k dSLeg)) (hlen : l.length ≤ 60) {fr to at_ ch when : Int} (hc : 0 ≤ ch ∧ ch ≤ 10000) {q : Nat} (hq : q ≤ 10) (J : Int → List (List Bool) → Option R) (hn : 1000000000 < n) :
    impl_Travel_k3 n kx2 kxr J (q : Int) l fr at_ ch (rowsE l to when ch (q + 1)) = J ((q + 1 : Nat) : Int) (rowsE l to when ch (q + 1 + 1)) := by
  have e : w64 ((q : Int) + 1) = ((q + 1 : Nat) : Int) := w64_succ (by omega)
  unfold impl_Travel_k3
  rw [chk_dec (by omega), chk_dec (by omega), chk_dec (by omega)]
  refine loop_runS (enc := fun i (s : List Bool) => (i, s)) (I := fun k s => s.length = l.length ∧ (∀ x, x < k → s.getD x false = endsF l to when ch (q + 1) x) ∧ ∀ x, k ≤ x → s.getD x false = false) (Q := fun r => r = J ((q + 1 : Nat) : Int) (rowsE l to when ch (q + 1 + 1))) (len := l.length)
    (fun k s J' hk hI => ?_) (fun s J' hI => ?_) (by omega) ⟨by simp, fun x hx => absurd hx (Nat.not_lt_zero _), fun x _ => ?_⟩
  · have e1 : w64 ((k : Int) + 1) = ((k + 1 : Nat) : Int) := w64_succ (by omega)
    show ∃ s', _ ∧ impl_Travel_L29 n _ (fun t122 next123 => J' (t122, next123)) (q : Int) (l.length : Int) (k : Int) l fr at_ ch (rowsE l to when ch (q + 1)) s = J' (((k + 1 : Nat) : Int), s')
    unfold impl_Travel_L29
    rw [decide_eq_true (show (k : Int) < (l.length : Int) by omega), cond_true]
    refine row_in (Q := fun r => ∃ s', (s'.length = l.length ∧ (∀ x, x < k + 1 → s'.getD x false = endsF l to when ch (q + 1) x) ∧ ∀ x, k + 1 ≤ x → s'.getD x false = false) ∧ r = J' (((k + 1 : Nat) : Int), s')) _ hl hlen hc (Nat.lt_succ_self q) hk _ _ hI.1 (hI.2.2 k (Nat.le_refl _)) (fun s' g1 g2 g3 => ⟨s', ⟨g1, fun x hx => ?_, fun x hx => ?_⟩, ?_⟩) hn
    · by_cases hxk : x = k
      · subst hxk; exact g3
      · rw [g2 x hxk]; exact hI.2.1 x (by omega)
    · rw [g2 x (by omega)]; exact hI.2.2 x (by omega)
    · show J' (w64 ((k : Int) + 1), s') = _
      rw [e1]
  · show impl_Travel_L29 n _ (fun t122 next123 => J' (t122, next123)) (q : Int) (l.length : Int) (l.length : Int) l fr at_ ch (rowsE l to when ch (q + 1)) s = _
    unfold impl_Travel_L29
    rw [decide_eq_false (by omega), cond_false]
    show (chk (decide ((rowsE l to when ch (q + 1) ++ [s]).length * 24 ≤ 140737488355328)) (J (w64 ((q : Int) + (1 : Int))) (rowsE l to when ch (q + 1) ++ [s]))) = _
    rw [chk_dec (by simp [rowsE_len]; omega), e, rowsE_succ _ _ _ _ (q + 1), row_ext hI.1 hI.2.1]
  · simp [List.getD_eq_getElem?_getD, List.getElem?_replicate]
    split <;> rfl
theorem ways_impl {n : Nat} {l : List SLeg} (hl : ∀ k, k < l.length → LegB (l.getD k dSLeg)) (hlen : l.length ≤ 60) {fr to at_ ch when : Int} (hc : 0 ≤ ch ∧ ch ≤ 10000) (hn : 1000000000 < n) :
    loopN (fun (x : Int × List (List Bool)) J' => impl_Travel_L13 n (some ([], false)) (fun t126 t127 => some (t127, t126)) (fun n128 ends129 => J' (n128, ends129)) x.1 l fr at_ ch x.2) n ((0 : Int), rowsE l to when ch 1) = scanK (wayF l fr to at_ ch when) (some ([], false)) 6 0 := by
  refine loop_scan (enc := fun k => ((k : Int), rowsE l to when ch (k + 1))) (len := 6) (fun k J hk => ?_) (fun J => ?_) 6 0 n (by omega) (by omega)
  · show impl_Travel_L13 n _ _ (fun n128 ends129 => J (n128, ends129)) (k : Int) l fr at_ ch (rowsE l to when ch (k + 1)) = _
    unfold impl_Travel_L13
    rw [decide_eq_true (show (k : Int) < 6 by omega), cond_true]
    unfold impl_Travel_k4
    rw [way_impl _ hl hlen hc (k : Int) (m := k + 1) (by omega) hn k [] (mayS l fr at_ 0 ch) n (by omega) (by omega) (fun j hj => may_nil hj) (by simp; omega), List.nil_append]
    have e : w64 ((k : Int) + 1) = ((k + 1 : Nat) : Int) := w64_succ (by omega)
    rw [e]
    unfold wayF
    cases h : (List.range l.length).any fun j => mayS l fr at_ 0 ch j && endsF l to when ch k j with
    | true =>
      rw [greL_len h, decide_eq_true rfl, cond_true, own_ints n _ (by rw [greL_len h]; omega), Option.bind_some]
      rfl
    | false =>
      rw [greL_none h, decide_eq_false (by simp; omega), cond_false, row_more _ _ hl hlen hc (by omega) _ hn]
      rfl
  · show impl_Travel_L13 n _ _ (fun n128 ends129 => J (n128, ends129)) 6 l fr at_ ch _ = _
    unfold impl_Travel_L13
    rw [decide_eq_false (by omega), cond_false]
theorem row_first {n : Nat} {R : Type} (kx : List (List Bool) → Option R) {l : List SLeg} (hl : ∀ k, k < l.length → LegB (l.getD k dSLeg)) (hlen : l.length ≤ 60) {fr to at_ ch : Int} {e : List Int} (he : e.length = 20) (ht : 0 ≤ to ∧ to ≤ 19) (hn : 1000000000 < n) :
    loopN (fun (x : Int × List (List Bool)) J' => impl_Travel_L8 n kx (fun t130 ends131 => J' (t130, ends131)) to l (l.length : Int) x.1 l fr at_ ch e x.2) n ((0 : Int), [(List.replicate (l.length : Int).toNat false)]) = kx (rowsE l to (e.getD to.toNat 0) ch 1) := by
  refine loop_runS (enc := fun i (s : List Bool) => (i, [s])) (I := fun k s => s.length = l.length ∧ ∀ x, x < k → s.getD x false = endsF l to (e.getD to.toNat 0) ch 0 x) (Q := fun r => r = kx (rowsE l to (e.getD to.toNat 0) ch 1)) (len := l.length)
    (fun k s J hk hI => ?_) (fun s J hI => ?_) (by omega) ⟨by simp, fun x hx => absurd hx (Nat.not_lt_zero _)⟩
  · have e1 : w64 ((k : Int) + 1) = ((k + 1 : Nat) : Int) := w64_succ (by omega)
    have hks : k < s.length := by rw [hI.1]; exact hk
    have h1 : 0 < [s].length := by simp
    have hset : ∀ b : Bool, b = endsF l to (e.getD to.toNat 0) ch 0 k → (s.set k b).length = l.length ∧ ∀ x, x < k + 1 → (s.set k b).getD x false = endsF l to (e.getD to.toNat 0) ch 0 x := fun b hb => ⟨by simp [hI.1], fun x hx => by
      by_cases hxk : x = k
      · subst hxk; rw [getD_set hks]; exact hb
      · rw [getD_set_ne hxk]; exact hI.2 x (by omega)⟩
    show ∃ s', _ ∧ impl_Travel_L8 n kx (fun t130 ends131 => J (t130, ends131)) to l (l.length : Int) (k : Int) l fr at_ ch e [s] = J (((k + 1 : Nat) : Int), [s'])
    unfold impl_Travel_L8 impl_Travel_k0
    rw [decide_eq_true (show (k : Int) < (l.length : Int) by omega), cond_true, ix_nat hk, Int.toNat_natCast, bd_eq, ix_of (Int.le_refl _) (by simp), chk_dec h1]
    by_cases hto : (l.getD k dSLeg).To = to
    · rw [decide_eq_true hto, cond_true, ix_of ht.1 (by rw [he]; omega), chk_dec (by rw [he]; omega), chk_dec h1]
      show ∃ s', _ ∧ (ix (k : Int) s.length (chk (decide (0 < [s].length)) (chk (decide ((k : Int).toNat < s.length)) (bd ([s].set 0 (s.set (k : Int).toNat (decide ((l.getD k dSLeg).Comes = e.getD to.toNat 0)))) fun (l22 : List (List Bool)) => J (w64 ((k : Int) + (1 : Int)), l22))))) = _
      rw [ix_nat hks, chk_dec h1, Int.toNat_natCast, chk_dec hks, bd_eq, e1]
      exact ⟨s.set k _, hset _ (by unfold endsF; rw [decide_eq_true hto, Bool.true_and]), rfl⟩
    · rw [decide_eq_false hto, cond_false, chk_dec h1]
      show ∃ s', _ ∧ (ix (k : Int) s.length (chk (decide (0 < [s].length)) (chk (decide ((k : Int).toNat < s.length)) (bd ([s].set 0 (s.set (k : Int).toNat false)) fun (l25 : List (List Bool)) => J (w64 ((k : Int) + (1 : Int)), l25))))) = _
      rw [ix_nat hks, chk_dec h1, Int.toNat_natCast, chk_dec hks, bd_eq, e1]
      exact ⟨s.set k _, hset _ (by unfold endsF; rw [decide_eq_false hto, Bool.false_and]), rfl⟩
  · show impl_Travel_L8 n kx (fun t130 ends131 => J (t130, ends131)) to l (l.length : Int) (l.length : Int) l fr at_ ch e [s] = _
    unfold impl_Travel_L8
    rw [decide_eq_false (by omega), cond_false, row_ext hI.1 hI.2]
    rfl
theorem travel_impl {n : Nat} (l : List SLeg) (fr to at_ ch : Int) (hl : l.length ≤ 1048576) (hn : 1000000000 < n) :
    (earlOk l fr at_ ch && decide (0 ≤ to ∧ to ≤ 19)) = false ∧ impl_Travel n l fr to at_ ch = some ([], false) ∨ (earlOk l fr at_ ch && decide (0 ≤ to ∧ to ≤ 19)) = true ∧ ∃ e, EarlIs l fr at_ ch e ∧ impl_Travel n l fr to at_ ch = travelR l fr to at_ ch e := by
  unfold impl_Travel
  rcases earl_impl l fr at_ ch hl hn with ⟨h1, h2⟩ | ⟨h1, e, h2, h3⟩
  · left
    rw [h1, h2]
    exact ⟨rfl, rfl⟩
  · rw [h1, h2, Option.bind_some, port_impl]
    by_cases ht : 0 ≤ to ∧ to ≤ 19
    · right
      refine ⟨by simp [ht], e, h3, ?_⟩
      obtain ⟨g1, g2, g3, g4⟩ := earlOk_is h1
      obtain ⟨hlen, hb⟩ := legs_at g1
      simp only [ht, and_self, decide_true, Bool.not_true, cond_false, Option.bind_some]
      rw [ix_of ht.1 (by rw [h3.len]; omega), chk_dec (by rw [h3.len]; omega)]
      unfold travelR
      cases decide (e.getD to.toNat 0 < 0) with
      | true => rfl
      | false =>
        cases decide (fr = to) with
        | true => rfl
        | false =>
          simp only [cond_false]
          unfold impl_Travel_k5
          rw [chk_dec (by omega), chk_dec (by omega), chk_dec (by omega), row_first _ hb hlen h3.len ht hn]
          exact ways_impl hb hlen g4 hn
    · left
      exact ⟨by simp [ht], by simp [ht]⟩
/-- What both tell. -/
theorem travel_both {n : Nat} (l : List SLeg) (fr to at_ ch : Int) (hl : l.length ≤ 1048576) (hn : 1000000000 < n) : ∃ r, spec_Travel n l fr to at_ ch = some r ∧ impl_Travel n l fr to at_ ch = some r ∧ r.1.length ≤ 1000 := by
  rcases travel_spec l fr to at_ ch hl hn with ⟨h1, h2⟩ | ⟨h1, e, h2, h3⟩ <;> rcases travel_impl l fr to at_ ch hl hn with ⟨g1, g2⟩ | ⟨g1, e', g2, g3⟩
  · exact ⟨_, h2, g2, by simp⟩
  · rw [h1] at g1; cases g1
  · rw [h1] at g1; cases g1
  · simp only [Bool.and_eq_true, decide_eq_true_eq] at h1
    obtain ⟨a1, a2, a3, a4⟩ := earlOk_is h1.1
    have := g2.uniq (legs_at a1).2 a2.1 h2
    subst this
    have key : ∃ r, travelR l fr to at_ ch e' = some r ∧ r.1.length ≤ 1000 := by
      unfold travelR
      cases decide (e'.getD to.toNat 0 < 0) with
      | true => exact ⟨_, rfl, by simp⟩
      | false =>
        cases decide (fr = to) with
        | true => exact ⟨_, rfl, by simp⟩
        | false =>
          simp only [cond_false]
          have : ∀ m k, k + m ≤ 6 → ∃ r, scanK (wayF l fr to at_ ch (e'.getD to.toNat 0)) (some ([], false)) m k = some r ∧ r.1.length ≤ 1000 := by
            intro m
            induction m with
            | zero => intro k _; exact ⟨_, rfl, by simp⟩
            | succ m ih =>
              intro k hk
              unfold scanK wayF
              cases h : (List.range l.length).any fun j => mayS l fr at_ 0 ch j && endsF l to (e'.getD to.toNat 0) ch k j with
              | true => exact ⟨_, rfl, by show (greL _ _ _ _ _ _).length ≤ 1000; rw [greL_len h]; omega⟩
              | false => exact ih (k + 1) (by omega)
          exact this 6 0 (by omega)
    obtain ⟨r, hr, hr2⟩ := key
    exact ⟨r, by rw [h3, hr], by rw [g3, hr], hr2⟩
end Go.Sm
end

section
set_option linter.unusedSimpArgs false
set_option linter.deprecated false
set_option linter.unusedSectionVars false
set_option linter.unusedVariables false
set_option linter.unusedSimpArgs false
namespace Go.Sm
attribute [local irreducible] bd chk ix loopN
theorem laws_FnExactTravel_true (aLegs0 : List SLeg) (aFrom1 : Int) (aTo2 : Int) (aAt3 : Int) (aChange4 : Int) (h0 : (aLegs0.length ≤ 9223372036854775807 ∧ ∀ y ∈ aLegs0, wfSLeg y)) (h1 : rng (-9223372036854775808) 9223372036854775807 aFrom1) (h2 : rng (-9223372036854775808) 9223372036854775807 aTo2) (h3 : rng (-9223372036854775808) 9223372036854775807 aAt3) (h4 : rng (-9223372036854775808) 9223372036854775807 aChange4) : ∃ n, laws_FnExactTravel n aLegs0 aFrom1 aTo2 aAt3 aChange4 = some true := by
  refine ⟨1000000001, ?_⟩
  generalize hN : (1000000001 : Nat) = n
  have hn : 1000000000 < n := by omega
  unfold laws_FnExactTravel
  rw [laws_szLegS_ok aLegs0 h0 (by omega) (by omega) hn, Option.bind_some]
  refine guard_sz fun hw => ?_
  have hl : aLegs0.length ≤ 1048576 := hw
  have hwl : w_LSLeg aLegs0 ≤ 100000000 := by have h : w_LSLeg aLegs0 = aLegs0.length := rfl; omega
  obtain ⟨r, hS, hI, hr⟩ := travel_both (n := n) aLegs0 aFrom1 aTo2 aAt3 aChange4 hl hn
  obtain ⟨R1, R2⟩ := r
  have hr : R1.length ≤ 1000 := hr
  have hwr : w_LInt R1 ≤ 100000000 := by have h : w_LInt R1 = R1.length := rfl; omega
  have hnl : n_LSLeg aLegs0 = 6 * aLegs0.length := n_LSLeg_eq _
  have hnr : n_LInt R1 = 1 * R1.length := n_LInt_eq _
  obtain ⟨p, m1⟩ := laws_markLegS_ok (n := n) aLegs0 1 (by omega) (by omega) hwl hn
  obtain ⟨q, m2, m3⟩ := laws_markIntS_ok (n := n) R1 1 (by omega) (by omega) hwr hn
  have d1 : decide (1 + ((n_LSLeg aLegs0 : Nat) : Int) < 0) = false := decide_eq_false (by omega)
  have d2 : decide (1 + ((n_LInt R1 : Nat) : Int) < 0) = false := decide_eq_false (by omega)
  unfold laws_FnExactTravel_k3 laws_FnExactTravel_k2 laws_FnExactTravel_k1 laws_FnExactTravel_k0
  simp only [laws_toLegS_ok aLegs0 hwl hn, hS, hI, Option.bind_some, laws_eqLegS_ok aLegs0 hwl hn, laws_eqIntS_ok R1 hwr hn, m1, m2, m3, d1, d2, decide_true, Bool.not_true, beq_self_eq_true, cond_false, cond_true]
end Go.Sm
end
