import Derived.Test.YtojjoinjabogbaaEngA
/- The functions as plain functions over data, and that the law answers true for all arguments. The program's Load22 returns what the reference's returns, for all arguments whose sizes the statement's guards let in. -/
section
set_option linter.unusedSimpArgs false
set_option linter.deprecated false
set_option linter.unusedSectionVars false
set_option linter.unusedVariables false
namespace Go.Sm
structure SLeg where
  Service : Int
  From : Int
  To : Int
  Leaves : Int
  Comes : Int
  Room : Int
def dSLeg : SLeg := ⟨(0 : Int), (0 : Int), (0 : Int), (0 : Int), (0 : Int), (0 : Int)⟩
def laws_szLegS (n : Nat) (a0 : List SLeg) (left1 : Int) : Option Int :=
  (bd (w64 (left1 - (a0.length : Int))) fun (v1 : Int) => (bif (decide (v1 < (0 : Int))) then some ((-1 : Int)) else some (v1)))
def laws_toLeg (n : Nat) (a0 : SLeg) : Option SLeg :=
  some (a0)
def laws_toLegS_L3 {R : Type} (n : Nat) (kx0 : List SLeg → Option R) (J : Int → List SLeg → Option R) (a1 : List SLeg) (i2 : Int) (out3 : List SLeg) : Option R :=
  (bif (decide (i2 < (a1.length : Int))) then ix i2 a1.length ((bd (a1.getD i2.toNat dSLeg) fun (e8 : SLeg) => (laws_toLeg n e8).bind fun r9 => ix i2 out3.length (chk (decide (i2.toNat < out3.length)) (J (w64 (i2 + (1 : Int))) (out3.set i2.toNat r9))))) else kx0 out3)
def laws_toLegS (n : Nat) (a0 : List SLeg) : Option (List SLeg) :=
  chk (decide ((0 : Int) ≤ (a0.length : Int))) (chk (decide ((a0.length : Int) ≤ (a0.length : Int))) (chk (decide ((a0.length : Int) ≤ 9223372036854775807 ∧ (a0.length : Int) * (48 : Int) ≤ 281474976710656)) (loopN (fun (x : Int × List SLeg) J' => laws_toLegS_L3 n (fun out10 => some (out10)) (fun i11 out12 => J' (i11, out12)) a0 x.1 x.2) n ((0 : Int), (List.replicate (a0.length : Int).toNat dSLeg)))))
def laws_toIntS_L3 {R : Type} (n : Nat) (kx0 : List Int → Option R) (J : Int → List Int → Option R) (a1 : List Int) (i2 : Int) (out3 : List Int) : Option R :=
  (bif (decide (i2 < (a1.length : Int))) then ix i2 a1.length (ix i2 out3.length (chk (decide (i2.toNat < out3.length)) ((bd (out3.set i2.toNat (a1.getD i2.toNat (0 : Int))) fun (l7 : List Int) => J (w64 (i2 + (1 : Int))) l7)))) else kx0 out3)
def laws_toIntS (n : Nat) (a0 : List Int) : Option (List Int) :=
  chk (decide ((0 : Int) ≤ (a0.length : Int))) (chk (decide ((a0.length : Int) ≤ (a0.length : Int))) (chk (decide ((a0.length : Int) ≤ 9223372036854775807 ∧ (a0.length : Int) * (8 : Int) ≤ 281474976710656)) (loopN (fun (x : Int × List Int) J' => laws_toIntS_L3 n (fun out8 => some (out8)) (fun i9 out10 => J' (i9, out10)) a0 x.1 x.2) n ((0 : Int), (List.replicate (a0.length : Int).toNat (0 : Int))))))
def spec_l1In (n : Nat) (x0 : Int) (a1 : Int) (b2 : Int) : Option Bool :=
  (bif (decide (x0 ≥ a1)) then some ((decide (x0 ≤ b2))) else some (false))
def spec_l1Minute (n : Nat) (x0 : Int) : Option Bool :=
  (spec_l1In n x0 (0 : Int) (100000000 : Int)).bind fun r1 => some (r1)
def spec_LegsOk_k0 {R : Type} (n : Nat) (kx2 : Option R) (kxr : Bool → Option R) (J : Int → Option R) (legs30 : List SLeg) (i31 : Int) (k34 : Int) (x33 : SLeg) : Option R :=
  ix k34 legs30.length ((bd (legs30.getD k34.toNat dSLeg) fun (e35 : SLeg) => (bif (decide (e35.Service = x33.Service)) then ix k34 legs30.length ((bd (legs30.getD k34.toNat dSLeg) fun (e36 : SLeg) => (bif (!(decide (e36.To = x33.From))) then kxr false else ix k34 legs30.length ((bd (legs30.getD k34.toNat dSLeg) fun (e37 : SLeg) => (bif (decide (e37.Comes > x33.Leaves)) then kxr false else kx2)))))) else J (w64 (k34 - (1 : Int))))))
def spec_LegsOk_L8 {R : Type} (n : Nat) (kx2 : Option R) (kxr : Bool → Option R) (J : Int → Option R) (legs30 : List SLeg) (i31 : Int) (k32 : Int) (x33 : SLeg) : Option R :=
  (bif (decide (k32 ≥ (0 : Int))) then spec_LegsOk_k0 n kx2 kxr J legs30 i31 k32 x33 else kx2)
def spec_LegsOk_k1 {R : Type} (n : Nat) (kx0 : Option R) (kxr : Bool → Option R) (J : Int → Option R) (legs1 : List SLeg) (i3 : Int) : Option R :=
  ix i3 legs1.length ((bd (legs1.getD i3.toNat dSLeg) fun (e4 : SLeg) => (spec_l1In n e4.Service (1 : Int) (100 : Int)).bind fun r5 => (bif (!r5) then kxr false else (spec_l1In n e4.From (0 : Int) (19 : Int)).bind fun r8 => (bif (!r8) then kxr false else (spec_l1In n e4.To (0 : Int) (19 : Int)).bind fun r11 => (bif (!r11) then kxr false else (bif (decide (e4.From = e4.To)) then kxr false else (spec_l1Minute n e4.Leaves).bind fun r16 => (bif (!r16) then kxr false else (spec_l1Minute n e4.Comes).bind fun r19 => (bif (!r19) then kxr false else (bif (decide (e4.Leaves ≥ e4.Comes)) then kxr false else (spec_l1In n e4.Room (0 : Int) (1000000 : Int)).bind fun r24 => (bif (!r24) then kxr false else loopN (fun (x : Int) J' => spec_LegsOk_L8 n (J (w64 (i3 + (1 : Int)))) (fun t49 => kxr t49) J' legs1 i3 x e4) n ((w64 (i3 - (1 : Int))))))))))))))
def spec_LegsOk_L2 {R : Type} (n : Nat) (kx0 : Option R) (kxr : Bool → Option R) (J : Int → Option R) (legs1 : List SLeg) (i2 : Int) : Option R :=
  (bif (decide (i2 < (legs1.length : Int))) then spec_LegsOk_k1 n kx0 kxr J legs1 i2 else kx0)
def spec_LegsOk (n : Nat) (legs0 : List SLeg) : Option Bool :=
  loopN (fun (x : Int) J' => spec_LegsOk_L2 n (some ((decide ((legs0.length : Int) ≤ (60 : Int))))) (fun t51 => some (t51)) J' legs0 x) n ((0 : Int))
def spec_l18Turn_L2 {R : Type} (n : Nat) (kx0 : Option R) (kxr : Int → Option R) (J : Int → Option R) (order1 : List Int) (box2 : Int) (i3 : Int) : Option R :=
  (bif (decide (i3 < (order1.length : Int))) then ix i3 order1.length ((bif (decide ((order1.getD i3.toNat (0 : Int)) = box2)) then kxr i3 else J (w64 (i3 + (1 : Int))))) else kx0)
def spec_l18Turn (n : Nat) (order0 : List Int) (box1 : Int) : Option Int :=
  loopN (fun (x : Int) J' => spec_l18Turn_L2 n (some ((order0.length : Int))) (fun t7 => some (t7)) J' order0 box1 x) n ((0 : Int))
def spec_l22Way_k0 {R : Type} (n : Nat) (kx0 : Option R) (kxr : Bool → Option R) (J : Int → Option R) (legs1 : List SLeg) (way2 : List Int) (i11 : Int) : Option R :=
  (bif (decide (i11 > (0 : Int))) then ix (w64 (i11 - (1 : Int))) way2.length (ix (way2.getD ((w64 (i11 - (1 : Int))).toNat) (0 : Int)) legs1.length ((bd (legs1.getD ((way2.getD ((w64 (i11 - (1 : Int))).toNat) (0 : Int)).toNat) dSLeg) fun (e12 : SLeg) => ix i11 way2.length (ix (way2.getD i11.toNat (0 : Int)) legs1.length ((bd (legs1.getD ((way2.getD i11.toNat (0 : Int)).toNat) dSLeg) fun (e13 : SLeg) => (bif (!(decide (e12.To = e13.From))) then kxr false else ix (w64 (i11 - (1 : Int))) way2.length (ix (way2.getD ((w64 (i11 - (1 : Int))).toNat) (0 : Int)) legs1.length ((bd (legs1.getD ((way2.getD ((w64 (i11 - (1 : Int))).toNat) (0 : Int)).toNat) dSLeg) fun (e15 : SLeg) => ix i11 way2.length (ix (way2.getD i11.toNat (0 : Int)) legs1.length ((bd (legs1.getD ((way2.getD i11.toNat (0 : Int)).toNat) dSLeg) fun (e16 : SLeg) => (bif (decide (e15.Comes > e16.Leaves)) then kxr false else J (w64 (i11 + (1 : Int))))))))))))))))) else J (w64 (i11 + (1 : Int))))
def spec_l22Way_k1 {R : Type} (n : Nat) (kx0 : Option R) (kxr : Bool → Option R) (J : Int → Option R) (legs1 : List SLeg) (way2 : List Int) (i4 : Int) : Option R :=
  ix i4 way2.length ((bd (w64 ((legs1.length : Int) - (1 : Int))) fun (v5 : Int) => (spec_l1In n (way2.getD i4.toNat (0 : Int)) (0 : Int) v5).bind fun r6 => (bif (!r6) then kxr false else ix i4 way2.length ((spec_l18Turn n way2 (way2.getD i4.toNat (0 : Int))).bind fun r8 => (bif (!(decide (r8 = i4))) then kxr false else spec_l22Way_k0 n kx0 kxr J legs1 way2 i4)))))
def spec_l22Way_L2 {R : Type} (n : Nat) (kx0 : Option R) (kxr : Bool → Option R) (J : Int → Option R) (legs1 : List SLeg) (way2 : List Int) (i3 : Int) : Option R :=
  (bif (decide (i3 < (way2.length : Int))) then spec_l22Way_k1 n kx0 kxr J legs1 way2 i3 else kx0)
def spec_l22Way (n : Nat) (legs0 : List SLeg) (way1 : List Int) : Option Bool :=
  loopN (fun (x : Int) J' => spec_l22Way_L2 n ((spec_l1In n (way1.length : Int) (1 : Int) (6 : Int)).bind fun r25 => some (r25)) (fun t26 => some (t26)) J' legs0 way1 x) n ((0 : Int))
def spec_Load22_k0 {R : Type} (n : Nat) (kx0 : List SLeg → Option R) (kxr : Int → Option R) (J : Int → List SLeg → Option R) (legs5 : List SLeg) (way6 : List Int) (many7 : Int) (i13 : Int) (out14 : List SLeg) : Option R :=
  ix i13 way6.length (ix i13 way6.length (ix (way6.getD i13.toNat (0 : Int)) out14.length (chk (decide ((way6.getD i13.toNat (0 : Int)).toNat < out14.length)) ((bd (w64 ((out14.getD ((way6.getD i13.toNat (0 : Int)).toNat) dSLeg).Room - many7)) fun (v15 : Int) => ix (way6.getD i13.toNat (0 : Int)) out14.length (chk (decide ((way6.getD i13.toNat (0 : Int)).toNat < out14.length)) ((bd (out14.getD ((way6.getD i13.toNat (0 : Int)).toNat) dSLeg) fun (e16 : SLeg) => (bd (out14.set ((way6.getD i13.toNat (0 : Int)).toNat) (⟨e16.Service, e16.From, e16.To, e16.Leaves, e16.Comes, v15⟩ : SLeg)) fun (l17 : List SLeg) => J (w64 (i13 + (1 : Int))) l17)))))))))
def spec_Load22_k1 {R : Type} (n : Nat) (kx0 : List SLeg → Option R) (kxr : Int → Option R) (J : Int → List SLeg → Option R) (legs5 : List SLeg) (way6 : List Int) (many7 : Int) (i10 : Int) (out11 : List SLeg) : Option R :=
  ix i10 way6.length (ix (way6.getD i10.toNat (0 : Int)) legs5.length ((bd (legs5.getD ((way6.getD i10.toNat (0 : Int)).toNat) dSLeg) fun (e12 : SLeg) => (bif (decide (e12.Room < many7)) then chk (decide (legs5.length * 48 ≤ 140737488355328)) (kxr (3 : Int)) else spec_Load22_k0 n kx0 kxr J legs5 way6 many7 i10 out11))))
def spec_Load22_L7 {R : Type} (n : Nat) (kx0 : List SLeg → Option R) (kxr : Int → Option R) (J : Int → List SLeg → Option R) (legs5 : List SLeg) (way6 : List Int) (many7 : Int) (i8 : Int) (out9 : List SLeg) : Option R :=
  (bif (decide (i8 < (way6.length : Int))) then spec_Load22_k1 n kx0 kxr J legs5 way6 many7 i8 out9 else kx0 out9)
def spec_Load22_k2 (n : Nat)  (legs0 : List SLeg) (way1 : List Int) (many2 : Int) : Option (List SLeg × Int) :=
  (spec_l22Way n legs0 way1).bind fun r4 => (bif (!r4) then some (legs0, (2 : Int)) else loopN (fun (x : Int × List SLeg) J' => spec_Load22_L7 n (fun out24 => some (out24, (0 : Int))) (fun t25 => some (legs0, t25)) (fun i26 out27 => J' (i26, out27)) legs0 way1 many2 x.1 x.2) n ((0 : Int), legs0))
def spec_Load22 (n : Nat) (legs0 : List SLeg) (way1 : List Int) (many2 : Int) : Option (List SLeg × Int) :=
  chk (decide (legs0.length * 48 ≤ 140737488355328)) ((spec_LegsOk n legs0).bind fun r1 => (bif (!r1) then some (legs0, (1 : Int)) else (spec_l1In n many2 (1 : Int) (1000000 : Int)).bind fun r2 => (bif (!r2) then some (legs0, (1 : Int)) else spec_Load22_k2 n  legs0 way1 many2)))
def impl_own_impl_Leg (n : Nat) (l0 : List SLeg) : Option (List SLeg) :=
  chk (decide ((0 : Int) ≤ (l0.length : Int))) (chk (decide ((l0.length : Int) ≤ 9223372036854775807 ∧ (l0.length : Int) * (48 : Int) ≤ 281474976710656)) (chk (decide (l0.length * 48 ≤ 140737488355328)) (some (l0))))
def impl_in (n : Nat) (n0 : Int) (least1 : Int) (most2 : Int) : Option Bool :=
  (bif (decide (n0 ≥ least1)) then some ((decide (n0 ≤ most2))) else some (false))
def impl_linePort (n : Nat) (n0 : Int) : Option Bool :=
  (impl_in n n0 (0 : Int) (19 : Int)).bind fun r1 => some (r1)
def impl_minuteOk (n : Nat) (n0 : Int) : Option Bool :=
  (impl_in n n0 (0 : Int) (100000000 : Int)).bind fun r1 => some (r1)
def impl_LegsOk_k0 {R : Type} (n : Nat) (kx0 : Option R) (kxr : Bool → Option R) (J : Int → List (Int × SLeg) → Option R) (t1 : List SLeg) (t2 : Int) (t39 : Int) (t40 : List (Int × SLeg)) (l41 : SLeg) : Option R :=
  (bd (mgetI t40 l41.Service) fun (g42 : Option SLeg) => (bif g42.isSome then (bif (!(decide ((g42.getD dSLeg).To = l41.From))) then kxr false else (bif (decide (l41.Leaves < (g42.getD dSLeg).Comes)) then kxr false else J (w64 (t39 + (1 : Int))) (mputI t40 l41.Service l41))) else J (w64 (t39 + (1 : Int))) (mputI t40 l41.Service l41)))
def impl_LegsOk_k1 {R : Type} (n : Nat) (kx0 : Option R) (kxr : Bool → Option R) (J : Int → List (Int × SLeg) → Option R) (t1 : List SLeg) (t2 : Int) (t5 : Int) (t6 : List (Int × SLeg)) : Option R :=
  ix t5 t1.length ((bd (t1.getD t5.toNat dSLeg) fun (e7 : SLeg) => (impl_in n e7.Service (1 : Int) (100 : Int)).bind fun r8 => (bif (!r8) then kxr false else (impl_linePort n e7.From).bind fun r12 => (bif (!r12) then kxr false else (impl_linePort n e7.To).bind fun r16 => (bif (!r16) then kxr false else (bif (decide (e7.From = e7.To)) then kxr false else (impl_minuteOk n e7.Leaves).bind fun r23 => (bif (!r23) then kxr false else (impl_minuteOk n e7.Comes).bind fun r27 => (bif (!r27) then kxr false else (bif (decide (e7.Leaves ≥ e7.Comes)) then kxr false else (impl_in n e7.Room (0 : Int) (1000000 : Int)).bind fun r34 => (bif (!r34) then kxr false else impl_LegsOk_k0 n kx0 kxr J t1 t2 t5 t6 e7))))))))))
def impl_LegsOk_L5 {R : Type} (n : Nat) (kx0 : Option R) (kxr : Bool → Option R) (J : Int → List (Int × SLeg) → Option R) (t1 : List SLeg) (t2 : Int) (t3 : Int) (t4 : List (Int × SLeg)) : Option R :=
  (bif (decide (t3 < t2)) then impl_LegsOk_k1 n kx0 kxr J t1 t2 t3 t4 else kx0)
def impl_LegsOk (n : Nat) (legs0 : List SLeg) : Option Bool :=
  (bif (decide ((legs0.length : Int) > (60 : Int))) then some (false) else loopN (fun (x : Int × (List (Int × SLeg))) J' => impl_LegsOk_L5 n (some (true)) (fun t81 => some (t81)) (fun t82 t83 => J' (t82, t83)) legs0 (legs0.length : Int) x.1 x.2) n ((0 : Int), []))
def slices_Index_int_int_L2 {R : Type} (n : Nat) (kx0 : Option R) (kxr : Int → Option R) (J : Int → Option R) (s1 : List Int) (v2 : Int) (t3 : Int) (t4 : Int) : Option R :=
  (bif (decide (t4 < t3)) then ix t4 s1.length ((bif (decide (v2 = (s1.getD t4.toNat (0 : Int)))) then kxr t4 else J (w64 (t4 + (1 : Int))))) else kx0)
def slices_Index_int_int (n : Nat) (s0 : List Int) (v1 : Int) : Option Int :=
  loopN (fun (x : Int) J' => slices_Index_int_int_L2 n (some ((-1 : Int))) (fun t8 => some (t8)) J' s0 v1 (s0.length : Int) x) n ((0 : Int))
def slices_Contains_int_int (n : Nat) (s0 : List Int) (v1 : Int) : Option Bool :=
  (slices_Index_int_int n s0 v1).bind fun r1 => some ((decide (r1 ≥ (0 : Int))))
def impl_changes (n : Nat) (i0 : SLeg) (j1 : SLeg) (change2 : Int) : Option Bool :=
  (bif (decide (i0.Service = j1.Service)) then (bif (decide (i0.To = j1.From)) then (bd (w64 (i0.Comes + (0 : Int))) fun (v3 : Int) => some ((decide (v3 ≤ j1.Leaves)))) else some (false)) else (bif (decide (i0.To = j1.From)) then (bd (w64 (i0.Comes + change2)) fun (v8 : Int) => some ((decide (v8 ≤ j1.Leaves)))) else some (false)))
def impl_Load22_k0 {R : Type} (n : Nat) (kx0 : Option R) (kxr : Int → Option R) (J : Int → Option R) (legs10 : List SLeg) (way11 : List Int) (many12 : Int) (i28 : Int) (k29 : Int) (t13 : List Int) (t14 : Int) (t30 : Int) (l16 : List SLeg) : Option R :=
  (bif (decide (i28 > (0 : Int))) then ix (w64 (i28 - (1 : Int))) way11.length (ix (way11.getD ((w64 (i28 - (1 : Int))).toNat) (0 : Int)) legs10.length ((bd (legs10.getD ((way11.getD ((w64 (i28 - (1 : Int))).toNat) (0 : Int)).toNat) dSLeg) fun (e31 : SLeg) => ix k29 legs10.length ((bd (legs10.getD k29.toNat dSLeg) fun (e32 : SLeg) => (impl_changes n e31 e32 (0 : Int)).bind fun r33 => (bif (!r33) then kxr (2 : Int) else J (w64 (t30 + (1 : Int))))))))) else J (w64 (t30 + (1 : Int))))
def impl_Load22_k1 {R : Type} (n : Nat) (kx0 : Option R) (kxr : Int → Option R) (J : Int → Option R) (legs10 : List SLeg) (way11 : List Int) (many12 : Int) (t13 : List Int) (t14 : Int) (t17 : Int) (l16 : List SLeg) : Option R :=
  ix t17 t13.length ((bd (w64 ((legs10.length : Int) - (1 : Int))) fun (v18 : Int) => (impl_in n (t13.getD t17.toNat (0 : Int)) (0 : Int) v18).bind fun r19 => (bif (!r19) then kxr (2 : Int) else chk (decide ((0 : Int) ≤ t17)) (chk (decide (t17 ≤ (way11.length : Int))) ((slices_Contains_int_int n (way11.take t17.toNat) (t13.getD t17.toNat (0 : Int))).bind fun r23 => (bif r23 then kxr (2 : Int) else impl_Load22_k0 n kx0 kxr J legs10 way11 many12 t17 (t13.getD t17.toNat (0 : Int)) t13 t14 t17 l16))))))
def impl_Load22_L7 {R : Type} (n : Nat) (kx0 : Option R) (kxr : Int → Option R) (J : Int → Option R) (legs10 : List SLeg) (way11 : List Int) (many12 : Int) (t13 : List Int) (t14 : Int) (t15 : Int) (l16 : List SLeg) : Option R :=
  (bif (decide (t15 < t14)) then impl_Load22_k1 n kx0 kxr J legs10 way11 many12 t13 t14 t15 l16 else kx0)
def impl_Load22_k2 {R : Type} (n : Nat) (kx2 : List SLeg → Option R) (kxr : Int → List SLeg → Option R) (J : Int → List SLeg → Option R) (legs44 : List SLeg) (many45 : Int) (k53 : Int) (t46 : List Int) (t47 : Int) (t54 : Int) (l55 : List SLeg) : Option R :=
  ix k53 l55.length (chk (decide (k53.toNat < l55.length)) ((bd (w64 ((l55.getD k53.toNat dSLeg).Room - many45)) fun (v56 : Int) => ix k53 l55.length (chk (decide (k53.toNat < l55.length)) ((bd (l55.getD k53.toNat dSLeg) fun (e57 : SLeg) => (bd (l55.set k53.toNat (⟨e57.Service, e57.From, e57.To, e57.Leaves, e57.Comes, v56⟩ : SLeg)) fun (l58 : List SLeg) => J (w64 (t54 + (1 : Int))) l58)))))))
def impl_Load22_k3 {R : Type} (n : Nat) (kx2 : List SLeg → Option R) (kxr : Int → List SLeg → Option R) (J : Int → List SLeg → Option R) (legs44 : List SLeg) (many45 : Int) (t46 : List Int) (t47 : Int) (t50 : Int) (l51 : List SLeg) : Option R :=
  ix t50 t46.length (ix (t46.getD t50.toNat (0 : Int)) l51.length (chk (decide ((t46.getD t50.toNat (0 : Int)).toNat < l51.length)) ((bif (decide ((l51.getD ((t46.getD t50.toNat (0 : Int)).toNat) dSLeg).Room < many45)) then (impl_own_impl_Leg n legs44).bind fun r52 => kxr (3 : Int) r52 else impl_Load22_k2 n kx2 kxr J legs44 many45 (t46.getD t50.toNat (0 : Int)) t46 t47 t50 l51))))
def impl_Load22_L15 {R : Type} (n : Nat) (kx2 : List SLeg → Option R) (kxr : Int → List SLeg → Option R) (J : Int → List SLeg → Option R) (legs44 : List SLeg) (many45 : Int) (t46 : List Int) (t47 : Int) (t48 : Int) (l49 : List SLeg) : Option R :=
  (bif (decide (t48 < t47)) then impl_Load22_k3 n kx2 kxr J legs44 many45 t46 t47 t48 l49 else kx2 l49)
def impl_Load22_k4 (n : Nat)  (legs0 : List SLeg) (way1 : List Int) (many2 : Int) (t9 : List SLeg) : Option (List SLeg × Int) :=
  loopN (fun (x : Int) J' => impl_Load22_L7 n (loopN (fun (x : Int × List SLeg) J' => impl_Load22_L15 n (fun l61 => some (l61, (0 : Int))) (fun t62 t63 => some (t63, t62)) (fun t64 l65 => J' (t64, l65)) legs0 many2 way1 (way1.length : Int) x.1 x.2) n ((0 : Int), t9)) (fun t66 => some (t9, t66)) J' legs0 way1 many2 way1 (way1.length : Int) x t9) n ((0 : Int))
def impl_Load22 (n : Nat) (legs0 : List SLeg) (way1 : List Int) (many2 : Int) : Option (List SLeg × Int) :=
  (impl_own_impl_Leg n legs0).bind fun r1 => (impl_LegsOk n legs0).bind fun r2 => (bif (!r2) then some (r1, (1 : Int)) else (impl_in n many2 (1 : Int) (1000000 : Int)).bind fun r4 => (bif (!r4) then some (r1, (1 : Int)) else (impl_in n (way1.length : Int) (1 : Int) (6 : Int)).bind fun r71 => (bif (!r71) then some (r1, (2 : Int)) else impl_Load22_k4 n  legs0 way1 many2 r1)))
def laws_eqLeg_k0 (n : Nat)  (a0 : SLeg) (b1 : SLeg) : Option Bool :=
  (bif (!(decide (a0.From = b1.From))) then some (false) else (bif (!(decide (a0.To = b1.To))) then some (false) else (bif (!(decide (a0.Leaves = b1.Leaves))) then some (false) else (bif (!(decide (a0.Comes = b1.Comes))) then some (false) else (bif (!(decide (a0.Room = b1.Room))) then some (false) else some (true))))))
def laws_eqLeg (n : Nat) (a0 : SLeg) (b1 : SLeg) : Option Bool :=
  (bif (!(decide (a0.Service = b1.Service))) then some (false) else laws_eqLeg_k0 n  a0 b1)
def laws_eqLegS_L4 {R : Type} (n : Nat) (kx0 : Option R) (kxr : Bool → Option R) (J : Int → Option R) (a1 : List SLeg) (b2 : List SLeg) (i3 : Int) : Option R :=
  (bif (decide (i3 < (a1.length : Int))) then ix i3 a1.length ((bd (a1.getD i3.toNat dSLeg) fun (e9 : SLeg) => ix i3 b2.length ((bd (b2.getD i3.toNat dSLeg) fun (e10 : SLeg) => (laws_eqLeg n e9 e10).bind fun r11 => (bif (!r11) then kxr false else J (w64 (i3 + (1 : Int)))))))) else kx0)
def laws_eqLegS (n : Nat) (a0 : List SLeg) (b1 : List SLeg) : Option Bool :=
  (bif (!(decide ((a0.length : Int) = (b1.length : Int)))) then some (false) else loopN (fun (x : Int) J' => laws_eqLegS_L4 n (some (true)) (fun t15 => some (t15)) J' a0 b1 x) n ((0 : Int)))
def laws_eqIntS_L4 {R : Type} (n : Nat) (kx0 : Option R) (kxr : Bool → Option R) (J : Int → Option R) (a1 : List Int) (b2 : List Int) (i3 : Int) : Option R :=
  (bif (decide (i3 < (a1.length : Int))) then ix i3 a1.length (ix i3 b2.length ((bif (!(decide ((a1.getD i3.toNat (0 : Int)) = (b2.getD i3.toNat (0 : Int))))) then kxr false else J (w64 (i3 + (1 : Int)))))) else kx0)
def laws_eqIntS (n : Nat) (a0 : List Int) (b1 : List Int) : Option Bool :=
  (bif (!(decide ((a0.length : Int) = (b1.length : Int)))) then some (false) else loopN (fun (x : Int) J' => laws_eqIntS_L4 n (some (true)) (fun t9 => some (t9)) J' a0 b1 x) n ((0 : Int)))
def laws_markLegS_k0 {R : Type} (n : Nat) (kx0 : Int → List SLeg → Option R) (J : Int → Int → List SLeg → Option R) (k4 : Int) (i5 : Int) (p6 : List SLeg) : Option R :=
  ix i5 p6.length (chk (decide (i5.toNat < p6.length)) ((bd (p6.getD i5.toNat dSLeg) fun (e7 : SLeg) => (bd (p6.set i5.toNat (⟨k4, e7.From, e7.To, e7.Leaves, e7.Comes, e7.Room⟩ : SLeg)) fun (l8 : List SLeg) => ix i5 l8.length (chk (decide (i5.toNat < l8.length)) ((bd (l8.getD i5.toNat dSLeg) fun (e9 : SLeg) => (bd (l8.set i5.toNat (⟨e9.Service, (w64 (k4 + (1 : Int))), e9.To, e9.Leaves, e9.Comes, e9.Room⟩ : SLeg)) fun (l10 : List SLeg) => (bd (w64 ((w64 (k4 + (1 : Int))) + (1 : Int))) fun (v11 : Int) => ix i5 l10.length (chk (decide (i5.toNat < l10.length)) ((bd (l10.getD i5.toNat dSLeg) fun (e12 : SLeg) => (bd (l10.set i5.toNat (⟨e12.Service, e12.From, v11, e12.Leaves, e12.Comes, e12.Room⟩ : SLeg)) fun (l13 : List SLeg) => ix i5 l13.length (chk (decide (i5.toNat < l13.length)) ((bd (l13.getD i5.toNat dSLeg) fun (e14 : SLeg) => (bd (l13.set i5.toNat (⟨e14.Service, e14.From, e14.To, (w64 (v11 + (1 : Int))), e14.Comes, e14.Room⟩ : SLeg)) fun (l15 : List SLeg) => (bd (w64 ((w64 (v11 + (1 : Int))) + (1 : Int))) fun (v16 : Int) => ix i5 l15.length (chk (decide (i5.toNat < l15.length)) ((bd (l15.getD i5.toNat dSLeg) fun (e17 : SLeg) => (bd (l15.set i5.toNat (⟨e17.Service, e17.From, e17.To, e17.Leaves, v16, e17.Room⟩ : SLeg)) fun (l18 : List SLeg) => ix i5 l18.length (chk (decide (i5.toNat < l18.length)) ((bd (l18.getD i5.toNat dSLeg) fun (e19 : SLeg) => (bd (l18.set i5.toNat (⟨e19.Service, e19.From, e19.To, e19.Leaves, e19.Comes, (w64 (v16 + (1 : Int)))⟩ : SLeg)) fun (l20 : List SLeg) => (bd (w64 ((w64 (v16 + (1 : Int))) + (1 : Int))) fun (v21 : Int) => J v21 (w64 (i5 + (1 : Int))) l20)))))))))))))))))))))))))))
def laws_markLegS_L2 {R : Type} (n : Nat) (kx0 : Int → List SLeg → Option R) (J : Int → Int → List SLeg → Option R) (k1 : Int) (i2 : Int) (p3 : List SLeg) : Option R :=
  (bif (decide (i2 < (p3.length : Int))) then laws_markLegS_k0 n kx0 J k1 i2 p3 else kx0 k1 p3)
def laws_markLegS (n : Nat) (a0 : List SLeg) (k1 : Int) : Option (Int × List SLeg) :=
  loopN (fun (x : Int × Int × List SLeg) J' => laws_markLegS_L2 n (fun k22 p23 => some (k22, p23)) (fun k24 i25 p26 => J' (k24, i25, p26)) x.1 x.2.1 x.2.2) n (k1, (0 : Int), a0)
def laws_markIntS_L2 {R : Type} (n : Nat) (kx0 : Int → List Int → Option R) (J : Int → Int → List Int → Option R) (k1 : Int) (i2 : Int) (p3 : List Int) : Option R :=
  (bif (decide (i2 < (p3.length : Int))) then ix i2 p3.length (chk (decide (i2.toNat < p3.length)) (J (w64 (k1 + (1 : Int))) (w64 (i2 + (1 : Int))) (p3.set i2.toNat k1))) else kx0 k1 p3)
def laws_markIntS (n : Nat) (a0 : List Int) (k1 : Int) : Option (Int × List Int) :=
  loopN (fun (x : Int × Int × List Int) J' => laws_markIntS_L2 n (fun k7 p8 => some (k7, p8)) (fun k9 i10 p11 => J' (k9, i10, p11)) x.1 x.2.1 x.2.2) n (k1, (0 : Int), a0)
def laws_heldLegS_k0 {R : Type} (n : Nat) (kx0 : Int → Option R) (kxr : Int → Option R) (J : Int → Int → Option R) (a1 : List SLeg) (k16 : Int) (i17 : Int) : Option R :=
  ix i17 a1.length ((bd (a1.getD i17.toNat dSLeg) fun (e18 : SLeg) => (bif (!(decide (e18.Comes = (w64 (k16 + (1 : Int)))))) then kxr (-1 : Int) else (bd (w64 ((w64 (k16 + (1 : Int))) + (1 : Int))) fun (v29 : Int) => ix i17 a1.length ((bd (a1.getD i17.toNat dSLeg) fun (e30 : SLeg) => (bif (!(decide (e30.Room = v29))) then kxr (-1 : Int) else J (w64 (v29 + (1 : Int))) (w64 (i17 + (1 : Int))))))))))
def laws_heldLegS_k1 {R : Type} (n : Nat) (kx0 : Int → Option R) (kxr : Int → Option R) (J : Int → Int → Option R) (a1 : List SLeg) (k10 : Int) (i11 : Int) : Option R :=
  ix i11 a1.length ((bd (a1.getD i11.toNat dSLeg) fun (e12 : SLeg) => (bif (!(decide (e12.To = (w64 (k10 + (1 : Int)))))) then kxr (-1 : Int) else (bd (w64 ((w64 (k10 + (1 : Int))) + (1 : Int))) fun (v35 : Int) => ix i11 a1.length ((bd (a1.getD i11.toNat dSLeg) fun (e36 : SLeg) => (bif (!(decide (e36.Leaves = v35))) then kxr (-1 : Int) else laws_heldLegS_k0 n kx0 kxr J a1 v35 i11)))))))
def laws_heldLegS_k2 {R : Type} (n : Nat) (kx0 : Int → Option R) (kxr : Int → Option R) (J : Int → Int → Option R) (a1 : List SLeg) (k4 : Int) (i5 : Int) : Option R :=
  ix i5 a1.length ((bd (a1.getD i5.toNat dSLeg) fun (e6 : SLeg) => (bif (!(decide (e6.Service = k4))) then kxr (-1 : Int) else ix i5 a1.length ((bd (a1.getD i5.toNat dSLeg) fun (e39 : SLeg) => (bif (!(decide (e39.From = (w64 (k4 + (1 : Int)))))) then kxr (-1 : Int) else laws_heldLegS_k1 n kx0 kxr J a1 (w64 (k4 + (1 : Int))) i5))))))
def laws_heldLegS_L2 {R : Type} (n : Nat) (kx0 : Int → Option R) (kxr : Int → Option R) (J : Int → Int → Option R) (a1 : List SLeg) (k2 : Int) (i3 : Int) : Option R :=
  (bif (decide (i3 < (a1.length : Int))) then laws_heldLegS_k2 n kx0 kxr J a1 k2 i3 else kx0 k2)
def laws_heldLegS (n : Nat) (a0 : List SLeg) (k1 : Int) : Option Int :=
  loopN (fun (x : Int × Int) J' => laws_heldLegS_L2 n (fun k42 => some (k42)) (fun t43 => some (t43)) (fun k44 i45 => J' (k44, i45)) a0 x.1 x.2) n (k1, (0 : Int))
def laws_FnExactLoad22_k0 (n : Nat)  (aLegs0 : List SLeg) (aWay1 : List Int) (aMany2 : Int) (w167 : Int) (m68 : Int) (t69 : List SLeg) (t70 : List SLeg) : Option Bool :=
  (laws_toLegS n aLegs0).bind fun r71 => (laws_toIntS n aWay1).bind fun r72 => (impl_Load22 n r71 r72 aMany2).bind fun r73 => (laws_eqLegS n r73.1 t69).bind fun r74 => (bif (!r74) then some (false) else (bif (!(decide (r73.2 = w167))) then some (false) else (laws_heldLegS n t70 (1 : Int)).bind fun r90 => (bif (decide (r90 < (0 : Int))) then some (false) else (bif (!(decide (r90 = m68))) then some (false) else some (true)))))
def laws_FnExactLoad22_k1 (n : Nat)  (aLegs0 : List SLeg) (aWay1 : List Int) (aMany2 : Int) (w153 : Int) (t54 : Bool) (t55 : List SLeg) (t56 : List SLeg) : Option Bool :=
  (bif t54 then some (false) else (laws_markLegS n t56 (1 : Int)).bind fun r97 => (laws_heldLegS n r97.2 (1 : Int)).bind fun r98 => (bif (decide (r98 < (0 : Int))) then some (false) else (bif (!(decide (r98 = r97.1))) then some (false) else laws_FnExactLoad22_k0 n  aLegs0 aWay1 aMany2 w153 r97.1 t55 r97.2)))
def laws_FnExactLoad22_k2 (n : Nat)  (aLegs0 : List SLeg) (aWay1 : List Int) (aMany2 : Int) (w138 : Int) (g139 : Int) (t40 : List SLeg) (t41 : List SLeg) (t42 : List Int) (t43 : List SLeg) : Option Bool :=
  (laws_markLegS n t41 (1 : Int)).bind fun r44 => (laws_markIntS n t42 r44.1).bind fun r45 => (bif (decide (r45.1 < (0 : Int))) then some (false) else (laws_eqLegS n t43 t40).bind fun r49 => (bif (!r49) then some (false) else laws_FnExactLoad22_k1 n  aLegs0 aWay1 aMany2 w138 (!(decide (g139 = w138))) t40 t43))
def laws_FnExactLoad22_k3 (n : Nat)  (aLegs0 : List SLeg) (aWay1 : List Int) (aMany2 : Int) (w115 : Int) (g116 : Int) (t17 : Bool) (t18 : List SLeg) (t19 : List SLeg) (t20 : List Int) (t21 : List SLeg) : Option Bool :=
  (bif t17 then some (false) else (laws_toLegS n aLegs0).bind fun r116 => (laws_eqLegS n t19 r116).bind fun r117 => (bif (!r117) then some (false) else (laws_toIntS n aWay1).bind fun r124 => (laws_eqIntS n t20 r124).bind fun r125 => (bif (!r125) then some (false) else laws_FnExactLoad22_k2 n  aLegs0 aWay1 aMany2 w115 g116 t18 t19 t20 t21)))
def laws_FnExactLoad22_k4 (n : Nat)  (aLegs0 : List SLeg) (aWay1 : List Int) (aMany2 : Int) : Option Bool :=
  (laws_toLegS n aLegs0).bind fun r2 => (laws_toIntS n aWay1).bind fun r3 => (spec_Load22 n r2 r3 aMany2).bind fun r4 => (laws_toLegS n aLegs0).bind fun r5 => (laws_toIntS n aWay1).bind fun r6 => (impl_Load22 n r5 r6 aMany2).bind fun r7 => (laws_eqLegS n r7.1 r4.1).bind fun r8 => (bif (!r8) then some (false) else laws_FnExactLoad22_k3 n  aLegs0 aWay1 aMany2 r4.2 r7.2 (!(decide (r7.2 = r4.2))) r4.1 r5 r6 r7.1)
def laws_FnExactLoad22 (n : Nat) (aLegs0 : List SLeg) (aWay1 : List Int) (aMany2 : Int) : Option Bool :=
  (bif (decide ((aWay1.length : Int) > (1048576 : Int))) then some (true) else (laws_szLegS n aLegs0 (1048576 : Int)).bind fun r132 => (bif (decide (r132 < (0 : Int))) then some (true) else laws_FnExactLoad22_k4 n  aLegs0 aWay1 aMany2))
def rng (a b x : Int) : Prop := a ≤ x ∧ x ≤ b
def wfSLeg (x : SLeg) : Prop := rng (-9223372036854775808) 9223372036854775807 x.Service ∧ rng (-9223372036854775808) 9223372036854775807 x.From ∧ rng (-9223372036854775808) 9223372036854775807 x.To ∧ rng (-9223372036854775808) 9223372036854775807 x.Leaves ∧ rng (-9223372036854775808) 9223372036854775807 x.Comes ∧ rng (-9223372036854775808) 9223372036854775807 x.Room
end Go.Sm
end

section
set_option linter.unusedSimpArgs false
set_option linter.deprecated false
set_option linter.unusedSectionVars false
set_option linter.unusedVariables false
namespace Go.Sm
/-! ### Of the words that printed functions are made of -/
theorem w64_id {x : Int} (h1 : -9223372036854775808 ≤ x) (h2 : x ≤ 9223372036854775807) : w64 x = x := by
  show (let m := x % (2 ^ 64 : Int); if (true && decide ((2 : Int) ^ 63 ≤ m)) = true then m - 2 ^ 64 else m) = x
  simp only [Bool.true_and, decide_eq_true_eq]
  split <;> omega
theorem w64_rng (x : Int) : -9223372036854775808 ≤ w64 x ∧ w64 x ≤ 9223372036854775807 := by
  show -9223372036854775808 ≤ (let m := x % (2 ^ 64 : Int); if (true && decide ((2 : Int) ^ 63 ≤ m)) = true then m - 2 ^ 64 else m) ∧ (let m := x % (2 ^ 64 : Int); if (true && decide ((2 : Int) ^ 63 ≤ m)) = true then m - 2 ^ 64 else m) ≤ 9223372036854775807
  simp only [Bool.true_and, decide_eq_true_eq]
  split <;> omega
theorem chk_of {R : Type} {b : Bool} {x : Option R} (h : b = true) : chk b x = x := by rw [h]; rfl
theorem chk_dec {R : Type} {p : Prop} [Decidable p] {x : Option R} (h : p) : chk (decide p) x = x := chk_of (decide_eq_true h)
theorem ix_of {R : Type} {i : Int} {len : Nat} {x : Option R} (h0 : 0 ≤ i) (h1 : i < (len : Int)) : ix i len x = x := by
  unfold ix
  rw [decide_eq_true h0, decide_eq_true h1]
  rfl
theorem ix_nat {R : Type} {i len : Nat} {x : Option R} (h1 : i < len) : ix (i : Int) len x = x := ix_of (by omega) (by omega)
theorem bif_dec {α : Type} {p : Prop} [Decidable p] {x y : α} : (bif decide p then x else y) = if p then x else y := by
  by_cases h : p <;> simp [h]
theorem bif_not {α : Type} {b : Bool} {x y : α} : (bif !b then x else y) = bif b then y else x := by cases b <;> rfl
theorem bif_and {α : Type} {a b : Bool} {x y : α} : (bif a && b then x else y) = bif a then (bif b then x else y) else y := by cases a <;> rfl
theorem loopN_succ {X R : Type} (b : X → (X → Option R) → Option R) (m : Nat) (x : X) : loopN b (m + 1) x = b x (loopN b m) := rfl
/-- What holds of a loop: by what is left to go. -/
theorem loopN_ind {X R : Type} {b : X → (X → Option R) → Option R} (μ : X → Nat) (I : X → Prop) (Q : X → Option R → Prop)
    (h : ∀ x J, I x → (∀ y, I y → μ y < μ x → Q y (J y)) → Q x (b x J)) : ∀ n x, I x → μ x < n → Q x (loopN b n x)
  | 0, x, hi, hm => absurd hm (Nat.not_lt_zero _)
  | n + 1, x, hi, hm => h x (loopN b n) hi fun y hy hl => loopN_ind μ I Q h n y hy (by omega)
theorem getD_eq {α : Type} {l : List α} {i : Nat} {d : α} (h : i < l.length) : l.getD i d = l[i] := by
  simp [List.getD, h]
theorem w64_succ {k : Nat} (h : k < 9223372036854775807) : w64 ((k : Int) + 1) = ((k + 1 : Nat) : Int) := by
  rw [w64_id (by omega) (by omega)]
  rfl
theorem take_succ_getD {α : Type} {l : List α} {i : Nat} {d : α} (h : i < l.length) : l.take (i + 1) = l.take i ++ [l.getD i d] := by
  rw [List.take_succ, getD_eq h, List.getElem?_eq_getElem h]
  rfl
theorem drop_getD {α : Type} {l : List α} {i : Nat} {d : α} (h : i < l.length) : l.drop i = l.getD i d :: l.drop (i + 1) := by
  rw [getD_eq h]
  exact List.drop_eq_getElem_cons h
theorem bd_eq {α β : Type} (e : α) (f : α → β) : bd e f = f e := rfl
theorem bd_set {α β : Type} {Q : β → Prop} {F : List α → β} {p : List α} {i : Nat} {x : α} (h : ∀ l : List α, l.length = p.length → Q (F l)) : Q (bd (p.set i x) F) := h _ (by simp)
theorem bd_is {α β : Type} {Q : β → Prop} {F : α → β} {e : α} (h : ∀ v : α, v = e → Q (F v)) : Q (bd e F) := h _ rfl
theorem bd_val {α β : Type} {Q : β → Prop} {F : α → β} {e : α} (h : ∀ v : α, Q (F v)) : Q (bd e F) := h _
theorem chk_q {R : Type} {Q : Option R → Prop} {b : Bool} {x : Option R} (h : b = true) (hx : Q x) : Q (chk b x) := by rw [chk_of h]; exact hx
theorem ix_q {R : Type} {Q : Option R → Prop} {i : Int} {len : Nat} {x : Option R} (h0 : 0 ≤ i) (h1 : i < (len : Int)) (hx : Q x) : Q (ix i len x) := by rw [ix_of h0 h1]; exact hx
theorem bd_upd {α β : Type} {Q : β → Prop} {F : List α → β} {p : List α} {i : Nat} {x d : α} (hi : i < p.length) (h : ∀ l : List α, l.length = p.length → l.getD i d = x → (∀ j, j ≠ i → l.getD j d = p.getD j d) → Q (F l)) : Q (bd (p.set i x) F) :=
  h _ (by simp) (by simp [List.getD, hi]) (fun j hj => by simp [List.getD, List.getElem?_set, Ne.symm hj])
/-- A list written from the front. -/
theorem set_take {α : Type} {a : List α} {d : α} {m k : Nat} (h : k < a.length) (hm : m = a.length := by rfl) : (a.take k ++ (List.replicate m d).drop k).set k (a.getD k d) = a.take (k + 1) ++ (List.replicate m d).drop (k + 1) := by
  subst hm
  have h1 : (a.take k).length = k := by simp; omega
  rw [List.set_append_right _ _ (by omega), h1, Nat.sub_self, take_succ_getD h, List.append_assoc]
  congr 1
  rw [List.drop_eq_getElem_cons (by simp; exact h)]
  rfl
/-! ### Loops over 0 .. len, by what is left -/
/-- Steps k, k+1, .. told one after the other; J: what comes behind a step. -/
def forK {S R : Type} (step : Nat → S → (S → Option R) → Option R) (fin : S → Option R) : Nat → Nat → S → Option R
  | 0, _, s => fin s
  | m + 1, k, s => step k s fun s' => forK step fin m (k + 1) s'
theorem loop_forK {X S R : Type} {b : X → (X → Option R) → Option R} {enc : Nat → S → X} {len : Nat} {step : Nat → S → (S → Option R) → Option R} {fin : S → Option R} (I : Nat → S → Prop)
    (hstep : ∀ k s J J', k < len → I k s → (∀ s', I (k + 1) s' → J (enc (k + 1) s') = J' s') → b (enc k s) J = step k s J') (hfin : ∀ s J, I len s → b (enc len s) J = fin s) :
    ∀ m k s n, k + m = len → m < n → I k s → loopN b n (enc k s) = forK step fin m k s
  | 0, k, s, 0, _, h, _ => absurd h (Nat.lt_irrefl _)
  | 0, k, s, n + 1, hk, _, hi => by
    have hk : k = len := by omega
    subst hk
    exact hfin s _ hi
  | m + 1, k, s, 0, _, h, _ => absurd h (Nat.not_lt_zero _)
  | m + 1, k, s, n + 1, hk, hn, hi => by
    show b (enc k s) (loopN b n) = step k s fun s' => forK step fin m (k + 1) s'
    exact hstep k s _ _ (by omega) hi fun s' hi' => loop_forK I hstep hfin m (k + 1) s' n (by omega) (by omega) hi'
/-- The first k at which f answers; at none: z. -/
def scanK {R : Type} (f : Nat → Option (Option R)) (z : Option R) : Nat → Nat → Option R
  | 0, _ => z
  | m + 1, k => match f k with
    | some r => r
    | none => scanK f z m (k + 1)
theorem loop_scan {X R : Type} {b : X → (X → Option R) → Option R} {enc : Nat → X} {len : Nat} {f : Nat → Option (Option R)} {z : Option R}
    (hstep : ∀ k J, k < len → b (enc k) J = match f k with | some r => r | none => J (enc (k + 1))) (hfin : ∀ J, b (enc len) J = z) :
    ∀ m k n, k + m = len → m < n → loopN b n (enc k) = scanK f z m k
  | 0, k, 0, _, h => absurd h (Nat.lt_irrefl _)
  | 0, k, n + 1, hk, _ => by
    have hk : k = len := by omega
    subst hk
    exact hfin _
  | m + 1, k, 0, _, h => absurd h (Nat.not_lt_zero _)
  | m + 1, k, n + 1, hk, hn => by
    show b (enc k) (loopN b n) = _
    rw [hstep k _ (by omega)]
    unfold scanK
    cases f k with
    | some r => rfl
    | none => exact loop_scan hstep hfin m (k + 1) n (by omega) (by omega)
/-- Is p so of all of k, .. k + m - 1? -/
theorem scan_all {R : Type} {p : Nat → Bool} {r z : Option R} : ∀ m k, scanK (fun k => bif p k then none else some r) z m k = bif (List.range' k m).all p then z else r
  | 0, k => rfl
  | m + 1, k => by
    rw [scanK, List.range'_succ, List.all_cons]
    cases h : p k with
    | true => simp only [cond_true, Bool.true_and]; exact scan_all m (k + 1)
    | false => rfl
theorem scan_any {R : Type} {p : Nat → Bool} {r z : Option R} : ∀ m k, scanK (fun k => bif p k then some r else none) z m k = bif (List.range' k m).any p then r else z
  | 0, k => rfl
  | m + 1, k => by
    rw [scanK, List.range'_succ, List.any_cons]
    cases h : p k with
    | false => simp only [cond_false, Bool.false_or]; exact scan_any m (k + 1)
    | true => rfl
theorem mgetI_mputI {β : Type} (l : List (Int × β)) (n m : Int) (v : β) : mgetI (mputI l n v) m = if m = n then some v else mgetI l m := by
  unfold mgetI mputI
  induction l with
  | nil =>
    by_cases h : m = n <;> simp [h]
  | cons a l ih =>
    rw [List.findIdx?_cons]
    by_cases h : n = a.1
    · simp only [h, decide_true, if_true, Option.elim_some, List.set_cons_zero, List.find?_cons]
      by_cases h2 : m = a.1
      · simp [h2]
      · simp [h2]
    · simp only [h, decide_false, Bool.false_eq_true, if_false]
      cases hf : l.findIdx? (fun e => decide (n = e.1)) with
      | none =>
        rw [hf] at ih
        simp only [Option.elim_none] at ih
        simp only [Option.map_none, Option.elim_none, List.cons_append, List.find?_cons]
        by_cases h2 : m = a.1
        · have : m ≠ n := fun e => h (e ▸ h2)
          simp [h2]
          simp [h2] at this
          simp [this]
        · simp only [h2, decide_false]
          exact ih
      | some i =>
        rw [hf] at ih
        simp only [Option.elim_some] at ih
        simp only [Option.map_some, Option.elim_some, List.set_cons_succ, List.find?_cons]
        by_cases h2 : m = a.1
        · have : m ≠ n := fun e => h (e ▸ h2)
          simp [h2]
          simp [h2] at this
          simp [this]
        · simp only [h2, decide_false]
          exact ih
theorem mgetI_nil {β : Type} (m : Int) : mgetI ([] : List (Int × β)) m = none := rfl
/-! ### Chains of tests -/
theorem bif_and' {α : Type} {a b : Bool} {x y : α} : (bif a then (bif b then x else y) else y) = bif a && b then x else y := by cases a <;> rfl
theorem bif_or' {α : Type} {a b : Bool} {x y : α} : (bif a then y else (bif b then x else y)) = bif !a && b then x else y := by cases a <;> rfl
theorem bif_and2 {α : Type} {a b : Bool} {x y : α} : (bif a then (bif b then y else x) else y) = bif a && !b then x else y := by cases a <;> cases b <;> rfl
theorem bif_or2 {α : Type} {a b : Bool} {x y : α} : (bif a then y else (bif b then y else x)) = bif !a && !b then x else y := by cases a <;> cases b <;> rfl
theorem bif_some {α β : Type} {a : Bool} {x y : α} {f : α → Option β} : (bif a then some x else some y).bind f = bif a then f x else f y := by cases a <;> rfl
theorem bif_tf {a : Bool} : (bif a then some true else some false) = some a := by cases a <;> rfl
theorem bif_ft {a : Bool} : (bif a then some false else some true) = some (!a) := by cases a <;> rfl
theorem bif_sf {a b : Bool} : (bif a then some b else some false) = some (a && b) := by cases a <;> rfl
theorem all_range_succ {p : Nat → Bool} {k : Nat} : (List.range (k + 1)).all p = ((List.range k).all p && p k) := by
  rw [List.range_succ, List.all_append]
  simp
theorem any_range_succ {p : Nat → Bool} {k : Nat} : (List.range (k + 1)).any p = ((List.range k).any p || p k) := by
  rw [List.range_succ, List.any_append]
  simp
theorem all_range_not {p : Nat → Bool} {k m : Nat} (hk : k < m) (h : p k = false) : (List.range m).all p = false := by
  rw [Bool.eq_false_iff]
  intro e
  rw [List.all_eq_true] at e
  rw [e k (List.mem_range.2 hk)] at h
  cases h
theorem any_range_of {p : Nat → Bool} {k m : Nat} (hk : k < m) (h : p k = true) : (List.range m).any p = true := by
  rw [List.any_eq_true]
  exact ⟨k, List.mem_range.2 hk, h⟩
/-- A loop that looks at k = 0, 1, .. and leaves at the first that is not so. -/
theorem loop_all {R : Type} {b : Int → (Int → Option R) → Option R} {len : Nat} {p : Nat → Bool} {no yes : Option R} (hlen : len ≤ 9223372036854775807)
    (hstep : ∀ (k : Nat) (J : Int → Option R), k < len → (∀ j, j < k → p j = true) → b (k : Int) J = bif p k then J ((k + 1 : Nat) : Int) else no) (hfin : ∀ J, (∀ j, j < len → p j = true) → b (len : Int) J = yes) {n : Nat} (hn : len < n) :
    loopN b n (0 : Int) = bif (List.range len).all p then yes else no := by
  refine loopN_ind (fun x => len - x.toNat) (fun x => ∃ k : Nat, k ≤ len ∧ x = (k : Int) ∧ (List.range k).all p = true) (fun x r => r = bif (List.range len).all p then yes else no) ?_ n _ ⟨0, by omega, rfl, rfl⟩ (by simp; omega)
  rintro _ J ⟨k, hk, rfl, hb⟩ ih
  have hb' : ∀ j, j < k → p j = true := fun j hj => List.all_eq_true.1 hb j (List.mem_range.2 hj)
  by_cases h : k < len
  · rw [hstep k J h hb']
    cases hp : p k with
    | true => exact ih _ ⟨k + 1, h, rfl, by rw [all_range_succ, hb, hp]; rfl⟩ (by simp; omega)
    | false => rw [all_range_not h hp]; rfl
  · have : k = len := by omega
    subst this
    rw [hfin _ hb', hb]
    rfl
/-- The same, a state turned on the way (its invariant: I). -/
theorem loop_allS {S R : Type} {X : Type} {enc : Int → S → X} {b : X → (X → Option R) → Option R} {len : Nat} {p : Nat → Bool} {I : Nat → S → Prop} {no yes : Option R}
    (hstep : ∀ (k : Nat) (s : S) (J : X → Option R), k < len → I k s → (∀ j, j < k → p j = true) → ∃ s', (p k = true → I (k + 1) s') ∧ b (enc (k : Int) s) J = bif p k then J (enc ((k + 1 : Nat) : Int) s') else no) (hfin : ∀ s J, I len s → (∀ j, j < len → p j = true) → b (enc (len : Int) s) J = yes) {n : Nat} (hn : len < n) {s0 : S} (h0 : I 0 s0) :
    loopN b n (enc (0 : Int) s0) = bif (List.range len).all p then yes else no := by
  have key : ∀ m (k : Nat) (s : S) n, k + m = len → m < n → I k s → (List.range k).all p = true → loopN b n (enc (k : Int) s) = bif (List.range len).all p then yes else no := by
    intro m
    induction m with
    | zero =>
      intro k s n hk hn hi hb
      have hb' : ∀ j, j < k → p j = true := fun j hj => List.all_eq_true.1 hb j (List.mem_range.2 hj)
      have hk : k = len := by omega
      subst hk
      cases n with
      | zero => omega
      | succ n => rw [loopN_succ, hfin s _ hi hb', hb]; rfl
    | succ m ih =>
      intro k s n hk hn hi hb
      have hb' : ∀ j, j < k → p j = true := fun j hj => List.all_eq_true.1 hb j (List.mem_range.2 hj)
      cases n with
      | zero => omega
      | succ n =>
        rw [loopN_succ]
        obtain ⟨s', h1, h2⟩ := hstep k s (loopN b n) (by omega) hi hb'
        rw [h2]
        cases hp : p k with
        | true => exact ih (k + 1) s' n (by omega) (by omega) (h1 hp) (by rw [all_range_succ, hb, hp]; rfl)
        | false => rw [all_range_not (by omega : k < len) hp]; rfl
  exact key len 0 s0 n (by omega) hn h0 rfl
/-- A loop over 0 .. len that never leaves early; its state: I. -/
theorem loop_runS {S R : Type} {X : Type} {enc : Int → S → X} {b : X → (X → Option R) → Option R} {len : Nat} {I : Nat → S → Prop} {Q : Option R → Prop}
    (hstep : ∀ (k : Nat) (s : S) (J : X → Option R), k < len → I k s → ∃ s', I (k + 1) s' ∧ b (enc (k : Int) s) J = J (enc ((k + 1 : Nat) : Int) s')) (hfin : ∀ s J, I len s → Q (b (enc (len : Int) s) J)) {n : Nat} (hn : len < n) {s0 : S} (h0 : I 0 s0) :
    Q (loopN b n (enc (0 : Int) s0)) := by
  have key : ∀ m (k : Nat) (s : S) n, k + m = len → m < n → I k s → Q (loopN b n (enc (k : Int) s)) := by
    intro m
    induction m with
    | zero =>
      intro k s n hk hn hi
      have hk : k = len := by omega
      subst hk
      cases n with
      | zero => omega
      | succ n => rw [loopN_succ]; exact hfin s _ hi
    | succ m ih =>
      intro k s n hk hn hi
      cases n with
      | zero => omega
      | succ n =>
        rw [loopN_succ]
        obtain ⟨s', h1, h2⟩ := hstep k s (loopN b n) (by omega) hi
        rw [h2]
        exact ih (k + 1) s' n (by omega) (by omega) h1
  exact key len 0 s0 n (by omega) hn h0
end Go.Sm
end

section
set_option linter.unusedSimpArgs false
set_option linter.deprecated false
set_option linter.unusedSectionVars false
set_option linter.unusedVariables false
set_option linter.unusedSimpArgs false
namespace Go.Sm
attribute [local irreducible] bd chk ix loopN
theorem laws_szLegS_ok {n : Nat} (a : List SLeg) {left : Int} (h : (a.length ≤ 9223372036854775807 ∧ ∀ y ∈ a, wfSLeg y)) (hl : 0 ≤ left) (hl2 : left ≤ 1048576) (hn : 1000000000 < n) :
    ∃ r, laws_szLegS n a left = some r ∧ r ≤ left ∧ (0 ≤ r → (a.length : Int) ≤ left) := by
  unfold laws_szLegS
  obtain ⟨h0, h1⟩ := h
  rw [w64_id (by omega) (by omega), bd_eq, bif_dec]
  split
  · exact ⟨-1, rfl, by omega, by omega⟩
  · exact ⟨_, rfl, by omega, by omega⟩
theorem laws_toLeg_eq (n : Nat) (a : SLeg) : laws_toLeg n a = some a := by simp [laws_toLeg]
theorem laws_toLegS_eq {n : Nat} (a : List SLeg) (hl : a.length ≤ 1048576) (hn : 1000000000 < n) : laws_toLegS n a = some a := by
  unfold laws_toLegS
  rw [chk_dec (by omega), chk_dec (by omega), chk_dec (by omega)]
  refine loopN_ind (fun x => a.length - x.1.toNat) (fun x => ∃ k : Nat, k ≤ a.length ∧ x = ((k : Int), a.take k ++ (List.replicate a.length dSLeg).drop k)) (fun x r => r = some a) ?_ n _ ⟨0, by omega, by simp⟩ (by simp; omega)
  rintro _ J ⟨k, hk, rfl⟩ ih
  unfold laws_toLegS_L3
  by_cases h : k < a.length
  · have hlen : (a.take k ++ (List.replicate a.length dSLeg).drop k).length = a.length := by simp; omega
    simp only [Int.ofNat_lt, h, decide_true, cond_true, ix_nat h, hlen, Int.toNat_natCast, Option.bind_some, chk_of, bd_eq, laws_toLeg_eq]
    rw [w64_succ (by omega)]
    exact ih _ ⟨k + 1, h, by rw [set_take h]⟩ (by simp; omega)
  · have : k = a.length := by omega
    subst this
    simp
theorem laws_toIntS_eq {n : Nat} (a : List Int) (hl : a.length ≤ 1048576) (hn : 1000000000 < n) : laws_toIntS n a = some a := by
  unfold laws_toIntS
  rw [chk_dec (by omega), chk_dec (by omega), chk_dec (by omega)]
  refine loopN_ind (fun x => a.length - x.1.toNat) (fun x => ∃ k : Nat, k ≤ a.length ∧ x = ((k : Int), a.take k ++ (List.replicate a.length (0 : Int)).drop k)) (fun x r => r = some a) ?_ n _ ⟨0, by omega, by simp⟩ (by simp; omega)
  rintro _ J ⟨k, hk, rfl⟩ ih
  unfold laws_toIntS_L3
  by_cases h : k < a.length
  · have hlen : (a.take k ++ (List.replicate a.length (0 : Int)).drop k).length = a.length := by simp; omega
    simp only [Int.ofNat_lt, h, decide_true, cond_true, ix_nat h, hlen, Int.toNat_natCast, Option.bind_some, chk_of, bd_eq]
    rw [w64_succ (by omega)]
    exact ih _ ⟨k + 1, h, by rw [set_take h]⟩ (by simp; omega)
  · have : k = a.length := by omega
    subst this
    simp
theorem laws_eqLeg_eq (n : Nat) (a : SLeg) : laws_eqLeg n a a = some true := by simp [laws_eqLeg, laws_eqLeg_k0]
theorem laws_eqLegS_eq {n : Nat} (a : List SLeg) (hl : a.length ≤ 1048576) (hn : 1000000000 < n) : laws_eqLegS n a a = some true := by
  unfold laws_eqLegS
  simp only [decide_true, Bool.not_true, cond_false]
  refine loopN_ind (fun x => a.length - x.toNat) (fun x => ∃ k : Nat, k ≤ a.length ∧ x = (k : Int)) (fun x r => r = some true) ?_ n _ ⟨0, by omega, rfl⟩ (by simp; omega)
  rintro _ J ⟨k, hk, rfl⟩ ih
  unfold laws_eqLegS_L4
  by_cases h : k < a.length
  · simp only [Int.ofNat_lt, h, decide_true, cond_true, ix_nat h, Bool.not_true, cond_false, bd_eq, Option.bind_some, beq_self_eq_true, laws_eqLeg_eq]
    rw [w64_succ (by omega)]
    exact ih _ ⟨k + 1, h, rfl⟩ (by simp; omega)
  · simp [h]
theorem laws_eqIntS_eq {n : Nat} (a : List Int) (hl : a.length ≤ 1048576) (hn : 1000000000 < n) : laws_eqIntS n a a = some true := by
  unfold laws_eqIntS
  simp only [decide_true, Bool.not_true, cond_false]
  refine loopN_ind (fun x => a.length - x.toNat) (fun x => ∃ k : Nat, k ≤ a.length ∧ x = (k : Int)) (fun x r => r = some true) ?_ n _ ⟨0, by omega, rfl⟩ (by simp; omega)
  rintro _ J ⟨k, hk, rfl⟩ ih
  unfold laws_eqIntS_L4
  by_cases h : k < a.length
  · simp only [Int.ofNat_lt, h, decide_true, cond_true, ix_nat h, Bool.not_true, cond_false, bd_eq, Option.bind_some, beq_self_eq_true]
    rw [w64_succ (by omega)]
    exact ih _ ⟨k + 1, h, rfl⟩ (by simp; omega)
  · simp [h]
def MkLegS (n : Nat) (k : Int) (x : SLeg) : Prop := x.Service = k ∧ x.From = (k + 1) ∧ x.To = (k + 2) ∧ x.Leaves = (k + 3) ∧ x.Comes = (k + 4) ∧ x.Room = (k + 5)
def MkLegSQ (n : Nat) (k0 : Int) (m : Nat) (r : Option (Int × List SLeg)) : Prop := ∃ a2 : List SLeg, r = some (k0 + 6 * (m : Int), a2) ∧ a2.length = m ∧ ∀ i, i < m → MkLegS n (k0 + 6 * (i : Int)) (a2.getD i dSLeg)
theorem laws_markLegS_ok {n : Nat} (a : List SLeg) (k0 : Int) (hk0 : 0 ≤ k0) (hb : k0 + 6 * (a.length : Int) ≤ 900000000) (hn : 1000000000 < n) : MkLegSQ n k0 a.length (laws_markLegS n a k0) := by
  unfold laws_markLegS
  refine loopN_ind (fun x => a.length - x.2.1.toNat) (fun x => ∃ (k : Nat) (p : List SLeg), k ≤ a.length ∧ x = (k0 + 6 * (k : Int), (k : Int), p) ∧ p.length = a.length ∧ ∀ i, i < k → MkLegS n (k0 + 6 * (i : Int)) (p.getD i dSLeg))
    (fun x r => MkLegSQ n k0 a.length r) ?_ n _ ⟨0, a, by omega, by simp, rfl, by omega⟩ (by simp; omega)
  rintro _ J ⟨k, p, hk, rfl, hp, hm⟩ ih
  unfold laws_markLegS_L2
  by_cases h : k < a.length
  · have h' : k < p.length := by omega
    simp only [Int.ofNat_lt, h', decide_true, cond_true, Int.toNat_natCast]
    unfold laws_markLegS_k0
    try simp (disch := omega) only [w64_id, Int.toNat_natCast, Int.add_assoc, Int.reduceAdd]
    try simp only [Option.bind_some, Int.add_assoc, Int.reduceAdd]
    repeat (first | refine ix_q (Q := MkLegSQ n k0 a.length) (by omega) (by omega) ?_ | refine chk_q (Q := MkLegSQ n k0 a.length) (decide_eq_true (by omega)) ?_ | refine bd_upd (Q := MkLegSQ n k0 a.length) (d := dSLeg) (i := k) (by omega) fun l hl hi hj => ?_ | (refine bd_is (α := Int) (Q := MkLegSQ n k0 a.length) fun v hv => ?_; (try simp (disch := omega) only [w64_id] at hv); (try subst hv)) | refine bd_is (α := SLeg) (Q := MkLegSQ n k0 a.length) fun e he => ?_)
    try simp (disch := omega) only [w64_id]
    refine ih _ ⟨k + 1, _, h, Prod.ext (by dsimp only; omega) (Prod.ext (by dsimp only; omega) rfl), by first | omega | (rw [List.length_set]; omega), fun j hj' => ?_⟩ (by dsimp only; omega)
    by_cases e : j = k
    · subst e
      first | (simp only [MkLegS, *, Int.add_assoc, Int.reduceAdd, and_self]; done) | (simp only [MkLegS, *, Int.add_assoc, Int.reduceAdd, and_self]; simp (disch := omega) only [w64_id, and_self]; done) | simp [MkLegS, List.getD, h']
    · have := hm j (by omega)
      first | (have hall : l.getD j dSLeg = p.getD j dSLeg := by simp (disch := assumption) only [*]
               rw [hall]
               exact this) | simpa [MkLegS, List.getD, List.getElem?_set, Ne.symm e] using this
  · have h' : ¬ k < p.length := by omega
    simp only [Int.ofNat_lt, h', decide_false, cond_false]
    have : k = a.length := by omega
    subst this
    exact ⟨p, rfl, hp, hm⟩
def MkIntS (n : Nat) (k : Int) (x : Int) : Prop := x = k
def MkIntSQ (n : Nat) (k0 : Int) (m : Nat) (r : Option (Int × List Int)) : Prop := ∃ a2 : List Int, r = some (k0 + 1 * (m : Int), a2) ∧ a2.length = m ∧ ∀ i, i < m → MkIntS n (k0 + 1 * (i : Int)) (a2.getD i (0 : Int))
theorem laws_markIntS_ok {n : Nat} (a : List Int) (k0 : Int) (hk0 : 0 ≤ k0) (hb : k0 + 1 * (a.length : Int) ≤ 900000000) (hn : 1000000000 < n) : MkIntSQ n k0 a.length (laws_markIntS n a k0) := by
  unfold laws_markIntS
  refine loopN_ind (fun x => a.length - x.2.1.toNat) (fun x => ∃ (k : Nat) (p : List Int), k ≤ a.length ∧ x = (k0 + 1 * (k : Int), (k : Int), p) ∧ p.length = a.length ∧ ∀ i, i < k → MkIntS n (k0 + 1 * (i : Int)) (p.getD i (0 : Int)))
    (fun x r => MkIntSQ n k0 a.length r) ?_ n _ ⟨0, a, by omega, by simp, rfl, by omega⟩ (by simp; omega)
  rintro _ J ⟨k, p, hk, rfl, hp, hm⟩ ih
  unfold laws_markIntS_L2
  by_cases h : k < a.length
  · have h' : k < p.length := by omega
    simp only [Int.ofNat_lt, h', decide_true, cond_true, Int.toNat_natCast, ix_nat h', chk_of]
    try simp (disch := omega) only [w64_id, Int.toNat_natCast, Int.add_assoc, Int.reduceAdd]
    try simp only [Option.bind_some, Int.add_assoc, Int.reduceAdd]
    repeat (first | refine ix_q (Q := MkIntSQ n k0 a.length) (by omega) (by omega) ?_ | refine chk_q (Q := MkIntSQ n k0 a.length) (decide_eq_true (by omega)) ?_ | refine bd_upd (Q := MkIntSQ n k0 a.length) (d := (0 : Int)) (i := k) (by omega) fun l hl hi hj => ?_ | (refine bd_is (α := Int) (Q := MkIntSQ n k0 a.length) fun v hv => ?_; (try simp (disch := omega) only [w64_id] at hv); (try subst hv)) | refine bd_is (α := Int) (Q := MkIntSQ n k0 a.length) fun e he => ?_)
    try simp (disch := omega) only [w64_id]
    refine ih _ ⟨k + 1, _, h, Prod.ext (by dsimp only; omega) (Prod.ext (by dsimp only; omega) rfl), by first | omega | (rw [List.length_set]; omega), fun j hj' => ?_⟩ (by dsimp only; omega)
    by_cases e : j = k
    · subst e
      first | (simp only [MkIntS, *, Int.add_assoc, Int.reduceAdd, and_self]; done) | (simp only [MkIntS, *, Int.add_assoc, Int.reduceAdd, and_self]; simp (disch := omega) only [w64_id, and_self]; done) | simp [MkIntS, List.getD, h']
    · have := hm j (by omega)
      first | (have hall : l.getD j (0 : Int) = p.getD j (0 : Int) := by simp (disch := assumption) only [*]
               rw [hall]
               exact this) | simpa [MkIntS, List.getD, List.getElem?_set, Ne.symm e] using this
  · have h' : ¬ k < p.length := by omega
    simp only [Int.ofNat_lt, h', decide_false, cond_false]
    have : k = a.length := by omega
    subst this
    exact ⟨p, rfl, hp, hm⟩
theorem laws_heldLegS_ok {n : Nat} (a : List SLeg) (k0 : Int) (hk0 : 0 ≤ k0) (hb : k0 + 6 * (a.length : Int) ≤ 900000000) (hn : 1000000000 < n) (ha : ∀ i, i < a.length → MkLegS n (k0 + 6 * (i : Int)) (a.getD i dSLeg)) : laws_heldLegS n a k0 = some (k0 + 6 * (a.length : Int)) := by
  unfold laws_heldLegS
  refine loopN_ind (fun x => a.length - x.2.toNat) (fun x => ∃ (k : Nat), k ≤ a.length ∧ x = (k0 + 6 * (k : Int), (k : Int)))
    (fun x r => r = some (k0 + 6 * (a.length : Int))) ?_ n _ ⟨0, by omega, by simp⟩ (by simp; omega)
  rintro _ J ⟨k, hk, rfl⟩ ih
  unfold laws_heldLegS_L2
  by_cases h : k < a.length
  · obtain ⟨e0, e1, e2, e3, e4, e5⟩ := ha k h
    simp only [Int.ofNat_lt, h, decide_true, cond_true]
    unfold laws_heldLegS_k2 laws_heldLegS_k1 laws_heldLegS_k0
    simp (disch := omega) only [w64_id, ix_nat h, Int.toNat_natCast, bd_eq, Int.add_assoc, Int.reduceAdd, e0, e1, e2, e3, e4, e5, decide_true, Bool.not_true, cond_false, Option.bind_some, beq_self_eq_true]
    refine Eq.trans ?_ (ih (k0 + 6 * ((k + 1 : Nat) : Int), ((k + 1 : Nat) : Int)) ⟨k + 1, h, rfl⟩ (by simp; omega))
    congr 2
    all_goals omega
  · have : k = a.length := by omega
    subst this
    simp
end Go.Sm
end

section
set_option linter.unusedSimpArgs false
set_option linter.deprecated false
set_option linter.unusedSectionVars false
set_option linter.unusedVariables false
set_option linter.unusedSimpArgs false
namespace Go.Sm
attribute [local irreducible] bd chk ix loopN
theorem in_spec4 (n : Nat) (x a b : Int) : spec_l1In n x a b = some (decide (a ≤ x ∧ x ≤ b)) := by
  unfold spec_l1In
  by_cases h0 : a ≤ x <;> by_cases h1 : x ≤ b <;> simp [h0, h1]
theorem in_impl4 (n : Nat) (x a b : Int) : impl_in n x a b = some (decide (a ≤ x ∧ x ≤ b)) := by
  unfold impl_in
  by_cases h0 : a ≤ x <;> by_cases h1 : x ≤ b <;> simp [h0, h1]
/-! ### Legs in order -/
def lastS (l : List SLeg) (s : Int) : Option SLeg := l.reverse.find? fun p => decide (p.Service = s)
theorem lastS_succ {l : List SLeg} {k : Nat} (h : k < l.length) (s : Int) : lastS (l.take (k + 1)) s = if (l.getD k dSLeg).Service = s then some (l.getD k dSLeg) else lastS (l.take k) s := by
  unfold lastS
  rw [take_succ_getD (d := dSLeg) h, List.reverse_append, List.reverse_singleton, List.singleton_append, List.find?_cons]
  by_cases e : (l.getD k dSLeg).Service = s <;> simp only [e, decide_true, decide_false, if_true, if_false]
def legBase (x : SLeg) : Bool :=
  decide (1 ≤ x.Service ∧ x.Service ≤ 100) && (decide (0 ≤ x.From ∧ x.From ≤ 19) && (decide (0 ≤ x.To ∧ x.To ≤ 19) && (!decide (x.From = x.To) && (decide (0 ≤ x.Leaves ∧ x.Leaves ≤ 100000000) &&
    (decide (0 ≤ x.Comes ∧ x.Comes ≤ 100000000) && (!decide (x.Leaves ≥ x.Comes) && decide (0 ≤ x.Room ∧ x.Room ≤ 1000000)))))))
def legJoin (q : Option SLeg) (x : SLeg) : Bool := match q with
  | none => true
  | some p => decide (p.To = x.From) && !decide (p.Comes > x.Leaves)
def legOk (l : List SLeg) (k : Nat) : Bool := legBase (l.getD k dSLeg) && legJoin (lastS (l.take k) (l.getD k dSLeg).Service) (l.getD k dSLeg)
def legsAll (l : List SLeg) : Bool := (List.range l.length).all (legOk l)
def legsOk (l : List SLeg) : Bool := decide (l.length ≤ 60) && legsAll l
theorem legs_back {R : Type} {n : Nat} (kx : Option R) (kxr : Bool → Option R) (l : List SLeg) (i : Int) (x : SLeg) (hn : 1000000000 < n) (hl : l.length ≤ 1048576) : ∀ j, j ≤ l.length → ∀ m, j < m →
    loopN (fun (y : Int) J' => spec_LegsOk_L8 n kx (fun t => kxr t) J' l i y x) m ((j : Int) - 1) = bif legJoin (lastS (l.take j) x.Service) x then kx else kxr false := by
  intro j
  induction j with
  | zero =>
    intro _ m hm
    cases m with
    | zero => omega
    | succ m =>
      rw [loopN_succ]
      unfold spec_LegsOk_L8
      rfl
  | succ j ih =>
    intro hj m hm
    cases m with
    | zero => omega
    | succ m =>
      rw [loopN_succ]
      have ihm := ih (by omega) m (by omega)
      generalize loopN (fun (y : Int) J' => spec_LegsOk_L8 n kx (fun t => kxr t) J' l i y x) m = J at ihm ⊢
      unfold spec_LegsOk_L8 spec_LegsOk_k0
      have e : (((j + 1 : Nat) : Int) - 1) = (j : Int) := by omega
      have h0 : (j : Int) ≥ 0 := by omega
      rw [e, lastS_succ (by omega)]
      have e2 : w64 ((j : Int) - 1) = (j : Int) - 1 := w64_id (by omega) (by omega)
      simp only [h0, decide_true, cond_true, ix_nat (show j < l.length by omega), bd_eq, Int.toNat_natCast, e2, ihm]
      by_cases hs : (l.getD j dSLeg).Service = x.Service
      · simp only [hs, decide_true, cond_true, if_true, legJoin, bif_not, bif_and2]
      · simp only [hs, decide_false, cond_false, if_false]
theorem legs_spec {n : Nat} (l : List SLeg) (hl : l.length ≤ 1048576) (hn : 1000000000 < n) : spec_LegsOk n l = some (legsOk l) := by
  unfold spec_LegsOk
  rw [loop_all (p := legOk l) (len := l.length) (no := some false) (yes := some (decide ((l.length : Int) ≤ 60))) (by omega) (fun k J h _ => ?_) (fun J _ => ?_) (by omega)]
  · rw [bif_sf, legsOk, legsAll, Bool.and_comm]
    congr 2
    simp only [decide_eq_decide]
    omega
  · unfold spec_LegsOk_L2 spec_LegsOk_k1 spec_l1Minute
    simp only [Int.ofNat_lt, h, decide_true, cond_true, ix_nat h, bd_eq, Int.toNat_natCast, in_spec4, Option.bind_some]
    have e1 : w64 ((k : Int) - 1) = (k : Int) - 1 := w64_id (by omega) (by omega)
    have e2 : w64 ((k : Int) + 1) = ((k + 1 : Nat) : Int) := w64_succ (by omega)
    rw [e1, e2]
    simp only [legs_back _ (fun t => some t) l (k : Int) _ hn hl k (by omega) n (by omega)]
    simp only [bif_not, bif_and', bif_or', legOk, legBase, Bool.and_assoc, Bool.not_not]
  · unfold spec_LegsOk_L2
    simp
theorem legs_impl {n : Nat} (l : List SLeg) (hl : l.length ≤ 1048576) (hn : 1000000000 < n) : impl_LegsOk n l = some (legsOk l) := by
  unfold impl_LegsOk
  by_cases h6 : l.length ≤ 60
  · have e : decide ((l.length : Int) > 60) = false := decide_eq_false (by omega)
    rw [e, cond_false]
    have := loop_allS (S := List (Int × SLeg)) (X := Int × List (Int × SLeg)) (enc := fun k s => (k, s)) (b := fun x J' => impl_LegsOk_L5 n (some true) (fun t81 => some t81) (fun t82 t83 => J' (t82, t83)) l (l.length : Int) x.1 x.2) (len := l.length) (p := legOk l)
      (I := fun k s => ∀ q, mgetI s q = lastS (l.take k) q) (no := some false) (yes := some true) (fun k s J h hi _ => ?_) (fun s J _ _ => ?_) (n := n) (by omega) (s0 := []) (fun q => by simp [lastS, mgetI])
    · refine this.trans ?_
      rw [bif_tf, legsOk, decide_eq_true h6, Bool.true_and, legsAll]
    · refine ⟨mputI s (l.getD k dSLeg).Service (l.getD k dSLeg), fun _ q => ?_, ?_⟩
      · rw [mgetI_mputI, lastS_succ h, hi q]
        by_cases hq : q = (l.getD k dSLeg).Service
        · simp only [hq, if_true]
        · simp only [hq, Ne.symm hq, if_false]
      · unfold impl_LegsOk_L5 impl_LegsOk_k1 impl_LegsOk_k0 impl_linePort impl_minuteOk
        rw [legOk]
        have hm := hi (l.getD k dSLeg).Service
        cases hq : lastS (l.take k) (l.getD k dSLeg).Service with
        | none =>
          rw [hq] at hm
          simp only [Int.ofNat_lt, h, decide_true, cond_true, ix_nat h, bd_eq, Int.toNat_natCast, in_impl4, Option.bind_some, w64_succ (show k < 9223372036854775807 by omega), hm, Option.isSome_none, cond_false, legJoin, legBase, bif_not, bif_and', bif_or', bif_and2, bif_or2, Bool.not_not, Bool.and_assoc, Bool.and_true, Bool.true_and, Bool.false_and, Bool.not_false, Bool.not_true]
        | some p =>
          rw [hq] at hm
          simp only [Int.ofNat_lt, h, decide_true, cond_true, ix_nat h, bd_eq, Int.toNat_natCast, in_impl4, Option.bind_some, w64_succ (show k < 9223372036854775807 by omega), hm, Option.isSome_some, Option.getD_some, legJoin, legBase, bif_not, bif_and', bif_or', bif_and2, bif_or2, Bool.not_not, Bool.and_assoc, Bool.and_true, Bool.true_and, Bool.false_and, Bool.not_false, Bool.not_true]
    · unfold impl_LegsOk_L5
      simp
  · have e : decide ((l.length : Int) > 60) = true := decide_eq_true (by omega)
    rw [e, cond_true, legsOk, decide_eq_false h6]
    rfl
/-! ### A way -/
theorem index_any {n : Nat} (s : List Int) (v : Int) (hs : s.length ≤ 1048576) (hn : 1000000000 < n) : slices_Contains_int_int n s v = some (s.any fun y => decide (v = y)) := by
  unfold slices_Contains_int_int slices_Index_int_int
  have : ∃ r, loopN (fun (x : Int) J' => slices_Index_int_int_L2 n (some (-1 : Int)) (fun t8 => some t8) J' s v (s.length : Int) x) n (0 : Int) = some r ∧ decide (r ≥ 0) = s.any fun y => decide (v = y) := by
    refine loopN_ind (fun x => s.length - x.toNat) (fun x => ∃ k : Nat, k ≤ s.length ∧ x = (k : Int) ∧ (s.take k).any (fun y => decide (v = y)) = false) (fun x r => ∃ r', r = some r' ∧ decide (r' ≥ 0) = s.any fun y => decide (v = y)) ?_ n _ ⟨0, by omega, rfl, rfl⟩ (by simp; omega)
    rintro _ J ⟨k, hk, rfl, hb⟩ ih
    unfold slices_Index_int_int_L2
    by_cases h : k < s.length
    · simp only [Int.ofNat_lt, h, decide_true, cond_true, ix_nat h, Int.toNat_natCast]
      cases hv : decide (v = s.getD k 0) with
      | true =>
        refine ⟨_, rfl, ?_⟩
        rw [show s.any (fun y => decide (v = y)) = true from List.any_eq_true.2 ⟨s.getD k 0, by rw [getD_eq h]; exact List.getElem_mem h, hv⟩]
        exact decide_eq_true (by omega)
      | false =>
        rw [cond_false, w64_succ (by omega)]
        exact ih _ ⟨k + 1, h, rfl, by rw [take_succ_getD (d := 0) h, List.any_append, hb]; simp only [List.any_cons, hv, List.any_nil]; rfl⟩ (by simp; omega)
    · have : k = s.length := by omega
      subst this
      rw [List.take_length] at hb
      simp only [Int.lt_irrefl, decide_false, cond_false]
      exact ⟨_, rfl, by rw [hb]; rfl⟩
  obtain ⟨r, h1, h2⟩ := this
  rw [h1, Option.bind_some, h2]
theorem turn_eq {n : Nat} (s : List Int) (v : Int) (hs : s.length ≤ 1048576) (hn : 1000000000 < n) : ∃ r : Nat, spec_l18Turn n s v = some (r : Int) ∧ r ≤ s.length ∧ (s.take r).any (fun y => decide (v = y)) = false ∧ (r < s.length → s.getD r 0 = v) := by
  unfold spec_l18Turn
  refine loopN_ind (fun x => s.length - x.toNat) (fun x => ∃ k : Nat, k ≤ s.length ∧ x = (k : Int) ∧ (s.take k).any (fun y => decide (v = y)) = false) (fun x q => ∃ r : Nat, q = some (r : Int) ∧ r ≤ s.length ∧ (s.take r).any (fun y => decide (v = y)) = false ∧ (r < s.length → s.getD r 0 = v)) ?_ n _ ⟨0, by omega, rfl, rfl⟩ (by simp; omega)
  rintro _ J ⟨k, hk, rfl, hb⟩ ih
  unfold spec_l18Turn_L2
  by_cases h : k < s.length
  · simp only [Int.ofNat_lt, h, decide_true, cond_true, ix_nat h, Int.toNat_natCast]
    cases hv : decide (s.getD k 0 = v) with
    | true => exact ⟨k, rfl, hk, hb, fun _ => of_decide_eq_true hv⟩
    | false =>
      rw [cond_false, w64_succ (by omega)]
      refine ih _ ⟨k + 1, h, rfl, ?_⟩ (by simp; omega)
      have : ¬ v = s.getD k 0 := fun e => of_decide_eq_false hv e.symm
      rw [take_succ_getD (d := 0) h, List.any_append, hb]
      simp only [List.any_cons, List.any_nil, decide_eq_false this]
      rfl
  · have : k = s.length := by omega
    subst this
    simp only [Int.lt_irrefl, decide_false, cond_false]
    exact ⟨s.length, rfl, Nat.le_refl _, hb, fun h => absurd h (Nat.lt_irrefl _)⟩
theorem turn_is {n : Nat} (s : List Int) (i : Nat) (hi : i < s.length) (hs : s.length ≤ 1048576) (hn : 1000000000 < n) : ∃ r : Int, spec_l18Turn n s (s.getD i 0) = some r ∧ decide (r = (i : Int)) = !(s.take i).any (fun y => decide (s.getD i 0 = y)) := by
  obtain ⟨r, h1, h2, h3, h4⟩ := turn_eq (n := n) s (s.getD i 0) hs hn
  refine ⟨_, h1, ?_⟩
  by_cases hr : r = i
  · subst hr
    rw [h3]
    simp
  · have hlt : r < i := by
      rcases Nat.lt_or_ge r i with h | h
      · exact h
      · exfalso
        have hlt : i < r := by omega
        rw [Bool.eq_false_iff] at h3
        apply h3
        rw [List.any_eq_true]
        refine ⟨s.getD i 0, ?_, by simp⟩
        rw [getD_eq hi]
        exact List.mem_take_iff_getElem.2 ⟨i, by omega, rfl⟩
    have : (s.take i).any (fun y => decide (s.getD i 0 = y)) = true := by
      rw [List.any_eq_true]
      refine ⟨s.getD r 0, ?_, decide_eq_true (h4 (by omega)).symm⟩
      rw [getD_eq (by omega : r < s.length)]
      exact List.mem_take_iff_getElem.2 ⟨r, by omega, rfl⟩
    rw [this, decide_eq_false (by omega)]
    rfl
def legJ (p x : SLeg) : Bool := decide (p.To = x.From) && !decide (p.Comes > x.Leaves)
def wayAt (l : List SLeg) (w : List Int) (k : Nat) : SLeg := l.getD (w.getD k 0).toNat dSLeg
def wayOk (l : List SLeg) (w : List Int) (k : Nat) : Bool :=
  decide (0 ≤ w.getD k 0 ∧ w.getD k 0 ≤ (l.length : Int) - 1) && (!(w.take k).any (fun y => decide (w.getD k 0 = y)) && (decide (k = 0) || legJ (wayAt l w (k - 1)) (wayAt l w k)))
def wayAll (l : List SLeg) (w : List Int) : Bool := (List.range w.length).all (wayOk l w)
theorem wayOk_rng {l : List SLeg} {w : List Int} {k : Nat} (h : wayOk l w k = true) : 0 ≤ w.getD k 0 ∧ w.getD k 0 < (l.length : Int) := by
  unfold wayOk at h
  simp only [Bool.and_eq_true, decide_eq_true_eq] at h
  omega
theorem way_spec {n : Nat} (l : List SLeg) (w : List Int) (hl : l.length ≤ 1048576) (hw : w.length ≤ 1048576) (hn : 1000000000 < n) : spec_l22Way n l w = some (wayAll l w && decide (1 ≤ (w.length : Int) ∧ (w.length : Int) ≤ 6)) := by
  unfold spec_l22Way
  rw [loop_all (p := wayOk l w) (len := w.length) (no := some false) (yes := some (decide (1 ≤ (w.length : Int) ∧ (w.length : Int) ≤ 6))) (by omega) (fun k J h hp => ?_) (fun J _ => ?_) (by omega)]
  · rw [bif_sf]; rfl
  · unfold spec_l22Way_L2 spec_l22Way_k1
    obtain ⟨r, h1, h2⟩ := turn_is (n := n) w k h hw hn
    simp only [Int.ofNat_lt, h, decide_true, cond_true, ix_nat h, bd_eq, Int.toNat_natCast, in_spec4, Option.bind_some, h1, h2]
    have e1 : w64 ((l.length : Int) - 1) = (l.length : Int) - 1 := w64_id (by omega) (by omega)
    have e2 : w64 ((k : Int) + 1) = ((k + 1 : Nat) : Int) := w64_succ (by omega)
    rw [e1]
    unfold spec_l22Way_k0
    rw [e2]
    cases k with
    | zero => 
      simp only [show ¬ ((0 : Nat) : Int) > 0 by omega, decide_false, cond_false]
      unfold wayOk
      simp only [decide_true, Bool.true_or, bif_not, bif_and', bif_or', bif_and2, bif_or2, Bool.not_not, Bool.and_assoc, Bool.and_true, Bool.true_and, Bool.false_and, Bool.not_false, Bool.not_true]
    | succ k =>
      have e3 : w64 (((k + 1 : Nat) : Int) - 1) = (k : Int) := by rw [w64_id (by omega) (by omega)]; omega
      have hk := wayOk_rng (hp k (by omega))
      simp only [show ((k + 1 : Nat) : Int) > 0 by omega, decide_true, cond_true, e3, ix_nat (show k < w.length by omega), Int.toNat_natCast, ix_of hk.1 hk.2]
      unfold wayOk
      cases h5 : decide (0 ≤ w.getD (k + 1) 0 ∧ w.getD (k + 1) 0 ≤ (l.length : Int) - 1) with
      | false => rfl
      | true =>
        have h5 := of_decide_eq_true h5
        simp only [ix_of h5.1 (show w.getD (k + 1) 0 < (l.length : Int) by omega), Bool.not_true, cond_false, decide_false, Nat.succ_ne_zero, Bool.false_or, Nat.add_sub_cancel, legJ, wayAt, bd_eq, ix_nat h, Int.toNat_natCast, bif_not, bif_and', bif_or', bif_and2, bif_or2, Bool.not_not, Bool.and_assoc, Bool.and_true, Bool.true_and, Bool.false_and, Bool.not_false, Bool.not_true]
  · unfold spec_l22Way_L2
    simp only [Int.lt_irrefl, decide_false, cond_false, in_spec4, Option.bind_some]
theorem changes_impl {n : Nat} (p x : SLeg) (hp : wfSLeg p) : impl_changes n p x 0 = some (legJ p x) := by
  unfold impl_changes
  have e : w64 (p.Comes + 0) = p.Comes := by rw [Int.add_zero]; exact w64_id hp.2.2.2.2.1.1 hp.2.2.2.2.1.2
  rw [e, bd_eq]
  have e2 : decide (p.Comes ≤ x.Leaves) = !decide (p.Comes > x.Leaves) := by
    by_cases h : p.Comes > x.Leaves
    · rw [decide_eq_true h, decide_eq_false (by omega)]; rfl
    · rw [decide_eq_false h, decide_eq_true (by omega)]; rfl
  rw [e2, bif_sf]
  cases decide (p.Service = x.Service) <;> rfl
theorem wf_at {l : List SLeg} (h : ∀ y ∈ l, wfSLeg y) {i : Nat} (hi : i < l.length) : wfSLeg (l.getD i dSLeg) := by
  rw [getD_eq hi]
  exact h _ (List.getElem_mem hi)
theorem way_impl {R : Type} {n : Nat} (l : List SLeg) (w : List Int) (many : Int) (t : List SLeg) (kx : Option R) (no : Int → Option R) (hwf : ∀ y ∈ l, wfSLeg y) (hl : l.length ≤ 1048576) (hw : w.length ≤ 1048576) (hn : 1000000000 < n) :
    loopN (fun (x : Int) J' => impl_Load22_L7 n kx no J' l w many w (w.length : Int) x t) n (0 : Int) = bif wayAll l w then kx else no 2 := by
  rw [loop_all (p := wayOk l w) (len := w.length) (no := no 2) (yes := kx) (by omega) (fun k J h hp => ?_) (fun J _ => ?_) (by omega)]
  · rfl
  · unfold impl_Load22_L7 impl_Load22_k1
    have hany := index_any (n := n) (w.take k) (w.getD k 0) (by simp; omega) hn
    have e1 : w64 ((l.length : Int) - 1) = (l.length : Int) - 1 := w64_id (by omega) (by omega)
    have e2 : w64 ((k : Int) + 1) = ((k + 1 : Nat) : Int) := w64_succ (by omega)
    simp only [Int.ofNat_lt, h, decide_true, cond_true, ix_nat h, bd_eq, Int.toNat_natCast, in_impl4, Option.bind_some, e1, hany, chk_dec (show (0 : Int) ≤ (k : Int) by omega), chk_dec (show (k : Int) ≤ (w.length : Int) by omega)]
    unfold impl_Load22_k0
    rw [e2]
    cases k with
    | zero =>
      simp only [show ¬ ((0 : Nat) : Int) > 0 by omega, decide_false, cond_false]
      unfold wayOk
      simp only [decide_true, Bool.true_or, bif_not, bif_and', bif_or', bif_and2, bif_or2, Bool.not_not, Bool.and_assoc, Bool.and_true, Bool.true_and, Bool.false_and, Bool.not_false, Bool.not_true]
    | succ k =>
      have e3 : w64 (((k + 1 : Nat) : Int) - 1) = (k : Int) := by rw [w64_id (by omega) (by omega)]; omega
      have hk := wayOk_rng (hp k (by omega))
      simp only [show ((k + 1 : Nat) : Int) > 0 by omega, decide_true, cond_true, e3, ix_nat (show k < w.length by omega), Int.toNat_natCast, ix_of hk.1 hk.2]
      unfold wayOk
      cases h5 : decide (0 ≤ w.getD (k + 1) 0 ∧ w.getD (k + 1) 0 ≤ (l.length : Int) - 1) with
      | false => rfl
      | true =>
        have h5 := of_decide_eq_true h5
        simp only [ix_of h5.1 (show w.getD (k + 1) 0 < (l.length : Int) by omega), cond_false, decide_false, Nat.succ_ne_zero, Bool.false_or, Nat.add_sub_cancel, wayAt, bd_eq, ix_nat h, Int.toNat_natCast, Option.bind_some, changes_impl _ _ (wf_at hwf (show (w.getD k 0).toNat < l.length by omega)), bif_not, bif_and', bif_or', bif_and2, bif_or2, Bool.not_not, Bool.and_assoc, Bool.and_true, Bool.true_and, Bool.false_and, Bool.not_false, Bool.not_true]
  · unfold impl_Load22_L7
    simp only [Int.lt_irrefl, decide_false, cond_false]
/-! ### The load -/
def less1 (many : Int) (o : List SLeg) (v : Int) : List SLeg := o.set v.toNat ⟨(o.getD v.toNat dSLeg).Service, (o.getD v.toNat dSLeg).From, (o.getD v.toNat dSLeg).To, (o.getD v.toNat dSLeg).Leaves, (o.getD v.toNat dSLeg).Comes, w64 ((o.getD v.toNat dSLeg).Room - many)⟩
def lessK (l : List SLeg) (w : List Int) (many : Int) (k : Nat) : List SLeg := (w.take k).foldl (less1 many) l
theorem less1_len (many : Int) (o : List SLeg) (v : Int) : (less1 many o v).length = o.length := by simp [less1]
theorem lessK_succ {l : List SLeg} {w : List Int} {many : Int} {k : Nat} (h : k < w.length) : lessK l w many (k + 1) = less1 many (lessK l w many k) (w.getD k 0) := by
  unfold lessK
  rw [take_succ_getD (d := 0) h, List.foldl_append]
  rfl
theorem lessK_len (l : List SLeg) (w : List Int) (many : Int) : ∀ k, k ≤ w.length → (lessK l w many k).length = l.length
  | 0, _ => by simp [lessK]
  | k + 1, h => by rw [lessK_succ (by omega), less1_len, lessK_len l w many k (by omega)]
theorem lessK_other (l : List SLeg) (w : List Int) (many : Int) (v : Int) (hv : 0 ≤ v) : ∀ k, k ≤ w.length → (∀ j, j < k → 0 ≤ w.getD j 0 ∧ w.getD j 0 ≠ v) → (lessK l w many k).getD v.toNat dSLeg = l.getD v.toNat dSLeg
  | 0, _, _ => by simp [lessK]
  | k + 1, h, hd => by
    rw [lessK_succ (by omega), ← lessK_other l w many v hv k (by omega) (fun j hj => hd j (by omega))]
    have := hd k (by omega)
    unfold less1
    simp only [List.getD_eq_getElem?_getD] at this ⊢
    rw [List.getElem?_set_ne (by omega)]
def roomAll (l : List SLeg) (w : List Int) (many : Int) : Bool := (List.range w.length).all fun k => !decide ((wayAt l w k).Room < many)
def loadR (l : List SLeg) (w : List Int) (many : Int) : List SLeg × Int := bif roomAll l w many then (lessK l w many w.length, 0) else (l, 3)
def load22 (l : List SLeg) (w : List Int) (many : Int) : List SLeg × Int :=
  bif legsOk l && decide (1 ≤ many ∧ many ≤ 1000000) then (bif wayAll l w && decide (1 ≤ (w.length : Int) ∧ (w.length : Int) ≤ 6) then loadR l w many else (l, 2)) else (l, 1)
theorem loadR_len (l : List SLeg) (w : List Int) (many : Int) : (loadR l w many).1.length = l.length := by
  unfold loadR
  cases roomAll l w many
  · rfl
  · exact lessK_len l w many _ (Nat.le_refl _)
theorem load22_len (l : List SLeg) (w : List Int) (many : Int) : (load22 l w many).1.length = l.length := by
  unfold load22
  cases legsOk l && decide (1 ≤ many ∧ many ≤ 1000000)
  · rfl
  · cases wayAll l w && decide (1 ≤ (w.length : Int) ∧ (w.length : Int) ≤ 6)
    · rfl
    · exact loadR_len l w many
theorem wayAll_at {l : List SLeg} {w : List Int} (h : wayAll l w = true) {k : Nat} (hk : k < w.length) : wayOk l w k = true := List.all_eq_true.1 h k (List.mem_range.2 hk)
theorem way_distinct {l : List SLeg} {w : List Int} (h : wayAll l w = true) {j k : Nat} (hj : j < k) (hk : k < w.length) : w.getD j 0 ≠ w.getD k 0 := fun e => by
  have := wayAll_at h hk
  unfold wayOk at this
  simp only [Bool.and_eq_true, Bool.not_eq_true'] at this
  have h2 := this.2.1
  rw [List.any_eq_false] at h2
  refine h2 (w.getD j 0) ?_ (decide_eq_true e.symm)
  rw [getD_eq (by omega : j < w.length)]
  exact List.mem_take_iff_getElem.2 ⟨j, by omega, rfl⟩
theorem load_spec {n : Nat} (l : List SLeg) (w : List Int) (many : Int) (hl : l.length ≤ 1048576) (hw : w.length ≤ 1048576) (hn : 1000000000 < n) : spec_Load22 n l w many = some (load22 l w many) := by
  unfold spec_Load22
  rw [chk_dec (by omega)]
  simp only [legs_spec l hl hn, in_spec4, Option.bind_some, bif_not, bif_and']
  unfold load22
  cases legsOk l && decide (1 ≤ many ∧ many ≤ 1000000) with
  | false => rfl
  | true =>
    simp only [cond_true]
    unfold spec_Load22_k2
    rw [way_spec l w hl hw hn, Option.bind_some, bif_not]
    cases hwa : wayAll l w && decide (1 ≤ (w.length : Int) ∧ (w.length : Int) ≤ 6) with
    | false => rfl
    | true =>
      simp only [cond_true]
      rw [Bool.and_eq_true] at hwa
      have := loop_allS (S := List SLeg) (X := Int × List SLeg) (enc := fun k s => (k, s)) (b := fun x J' => spec_Load22_L7 n (fun out24 => some (out24, (0 : Int))) (fun t25 => some (l, t25)) (fun i26 out27 => J' (i26, out27)) l w many x.1 x.2) (len := w.length) (p := fun k => !decide ((wayAt l w k).Room < many))
        (I := fun k s => s = lessK l w many k) (no := some (l, 3)) (yes := some (lessK l w many w.length, 0)) (fun k s J h hi _ => ?_) (fun s J hi _ => ?_) (n := n) (by omega) (s0 := l) rfl
      · refine this.trans ?_
        unfold loadR roomAll
        cases (List.range w.length).all _ <;> rfl
      · subst hi
        have hr := wayOk_rng (wayAll_at hwa.1 h)
        have hlk := lessK_len l w many k (by omega)
        refine ⟨_, fun _ => (lessK_succ h).symm, ?_⟩
        unfold spec_Load22_L7 spec_Load22_k1 spec_Load22_k0
        have hlt : (w.getD k 0).toNat < (lessK l w many k).length := by omega
        simp only [Int.ofNat_lt, h, decide_true, cond_true, ix_nat h, bd_eq, Int.toNat_natCast, ix_of hr.1 hr.2, ix_of hr.1 (show w.getD k 0 < ((lessK l w many k).length : Int) by omega), chk_dec hlt, chk_dec (show l.length * 48 ≤ 140737488355328 by omega), w64_succ (show k < 9223372036854775807 by omega), bif_not]
        rfl
      · subst hi
        unfold spec_Load22_L7
        simp only [Int.lt_irrefl, decide_false, cond_false]
theorem own_leg4 (n : Nat) (l : List SLeg) (h : l.length ≤ 1048576) : impl_own_impl_Leg n l = some l := by
  unfold impl_own_impl_Leg
  rw [chk_dec (by omega), chk_dec (by omega), chk_dec (by omega)]
theorem load_impl {n : Nat} (l : List SLeg) (w : List Int) (many : Int) (hwf : ∀ y ∈ l, wfSLeg y) (hl : l.length ≤ 1048576) (hw : w.length ≤ 1048576) (hn : 1000000000 < n) : impl_Load22 n l w many = some (load22 l w many) := by
  unfold impl_Load22
  simp only [own_leg4 n l hl, legs_impl l hl hn, in_impl4, Option.bind_some, bif_not, bif_and']
  unfold load22
  cases legsOk l with
  | false => rfl
  | true =>
    cases decide (1 ≤ many ∧ many ≤ 1000000) with
    | false => rfl
    | true =>
      simp only [Bool.true_and, cond_true]
      cases h16 : decide (1 ≤ (w.length : Int) ∧ (w.length : Int) ≤ 6) with
      | false => rw [Bool.and_false]; rfl
      | true =>
        rw [Bool.and_true, cond_true]
        unfold impl_Load22_k4
        rw [way_impl l w many l _ _ hwf hl hw hn]
        cases hwa : wayAll l w with
        | false => rfl
        | true =>
          simp only [cond_true]
          have := loop_allS (S := List SLeg) (X := Int × List SLeg) (enc := fun k s => (k, s)) (b := fun x J' => impl_Load22_L15 n (fun l61 => some (l61, (0 : Int))) (fun t62 t63 => some (t63, t62)) (fun t64 l65 => J' (t64, l65)) l many w (w.length : Int) x.1 x.2) (len := w.length) (p := fun k => !decide ((wayAt l w k).Room < many))
            (I := fun k s => s = lessK l w many k) (no := some (l, 3)) (yes := some (lessK l w many w.length, 0)) (fun k s J h hi _ => ?_) (fun s J hi _ => ?_) (n := n) (by omega) (s0 := l) rfl
          · refine this.trans ?_
            unfold loadR roomAll
            cases (List.range w.length).all _ <;> rfl
          · subst hi
            have hr := wayOk_rng (wayAll_at hwa h)
            have hlk := lessK_len l w many k (by omega)
            refine ⟨_, fun _ => (lessK_succ h).symm, ?_⟩
            unfold impl_Load22_L15 impl_Load22_k3 impl_Load22_k2
            have hlt : (w.getD k 0).toNat < (lessK l w many k).length := by omega
            have hoth := lessK_other l w many (w.getD k 0) hr.1 k (by omega) fun j hj => ⟨(wayOk_rng (wayAll_at hwa (show j < w.length by omega))).1, way_distinct hwa hj h⟩
            simp only [Int.ofNat_lt, h, decide_true, cond_true, ix_nat h, bd_eq, Int.toNat_natCast, ix_of hr.1 (show w.getD k 0 < ((lessK l w many k).length : Int) by omega), chk_dec hlt, w64_succ (show k < 9223372036854775807 by omega), own_leg4 n l hl, Option.bind_some, bif_not]
            rw [show decide (((lessK l w many k).getD (w.getD k 0).toNat dSLeg).Room < many) = decide ((wayAt l w k).Room < many) by rw [hoth]; rfl]
            rfl
          · subst hi
            unfold impl_Load22_L15
            simp only [Int.lt_irrefl, decide_false, cond_false]
theorem laws_FnExactLoad22_true (aLegs0 : List SLeg) (aWay1 : List Int) (aMany2 : Int) (h0 : (aLegs0.length ≤ 9223372036854775807 ∧ ∀ y ∈ aLegs0, wfSLeg y)) (h1 : (aWay1.length ≤ 9223372036854775807 ∧ ∀ y ∈ aWay1, rng (-9223372036854775808) 9223372036854775807 y)) (h2 : rng (-9223372036854775808) 9223372036854775807 aMany2) : ∃ n, laws_FnExactLoad22 n aLegs0 aWay1 aMany2 = some true := by
  refine ⟨1000000001, ?_⟩
  generalize hN : (1000000001 : Nat) = n
  have hn : 1000000000 < n := by omega
  unfold laws_FnExactLoad22
  rw [bif_dec]
  split
  · rfl
  rename_i hlw
  obtain ⟨r, hr1, hr2, hr3⟩ := laws_szLegS_ok (n := n) aLegs0 (left := 1048576) h0 (by omega) (by omega) hn
  rw [hr1, Option.bind_some, bif_dec]
  split
  · rfl
  · have hl1 : aLegs0.length ≤ 1048576 := by have := hr3 (by omega); omega
    have hl2 : aWay1.length ≤ 1048576 := by omega
    have c1 := load22_len aLegs0 aWay1 aMany2
    have hS := load_spec (n := n) aLegs0 aWay1 aMany2 hl1 hl2 hn
    have hI := load_impl (n := n) aLegs0 aWay1 aMany2 h0.2 hl1 hl2 hn
    generalize load22 aLegs0 aWay1 aMany2 = R at *
    obtain ⟨R1, R2⟩ := R
    dsimp only at c1
    obtain ⟨u1, m1, m2, m3⟩ := laws_markLegS_ok (n := n) aLegs0 1 (by omega) (by omega) hn
    obtain ⟨u2, m4, m5, m6⟩ := laws_markIntS_ok (n := n) aWay1 (1 + 6 * (aLegs0.length : Int)) (by omega) (by omega) hn
    obtain ⟨v1, p1, p2, p3⟩ := laws_markLegS_ok (n := n) R1 1 (by omega) (by omega) hn
    have q1 := laws_heldLegS_ok (n := n) v1 1 (by omega) (by omega) hn (by rw [p2]; exact p3)
    rw [p2] at q1
    have d1 : decide (1 + 6 * (aLegs0.length : Int) + 1 * (aWay1.length : Int) < 0) = false := decide_eq_false (by omega)
    have d2 : decide (1 + 6 * (R1.length : Int) < 0) = false := decide_eq_false (by omega)
    unfold laws_FnExactLoad22_k4 laws_FnExactLoad22_k3 laws_FnExactLoad22_k2 laws_FnExactLoad22_k1 laws_FnExactLoad22_k0
    simp only [laws_toLegS_eq aLegs0 hl1 hn, laws_toIntS_eq aWay1 hl2 hn, hS, hI, Option.bind_some, laws_eqLegS_eq aLegs0 hl1 hn, laws_eqIntS_eq aWay1 hl2 hn, laws_eqLegS_eq R1 (show _ ≤ 1048576 by omega) hn,
      m1, m4, p1, q1, d1, d2, decide_true, Bool.not_true, cond_false, cond_true]
end Go.Sm
end
