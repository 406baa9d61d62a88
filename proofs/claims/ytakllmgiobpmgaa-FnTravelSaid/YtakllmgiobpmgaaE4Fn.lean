import Derived.Test.YtakllmgiobpmgaaEngE
import Derived.Test.YtakllmgiobpmgaaEngA
/- The functions as plain functions over data, and that the law answers true for all arguments. Travel: of drawn legs nobody is anywhere ahead of the legs that lead there; a way told leaves where it should, waits as long as asked, and comes when it is told. -/
set_option linter.unusedSimpArgs false
set_option linter.deprecated false
set_option linter.unusedSectionVars false
set_option linter.unusedVariables false
noncomputable section
namespace Go.Sm
structure SLeg where
  Service : Int
  From : Int
  To : Int
  Leaves : Int
  Comes : Int
  Room : Int
structure Sl1Cur where
  b : List Int
  i : Int
  h : Int
def dSLeg : SLeg := ⟨(0 : Int), (0 : Int), (0 : Int), (0 : Int), (0 : Int), (0 : Int)⟩
def dSl1Cur : Sl1Cur := ⟨[], (0 : Int), (0 : Int)⟩
def laws_big (n : Nat) (code0 : List Int) : Option Bool :=
  some ((decide ((code0.length : Int) > (1048576 : Int))))
def spec_l1New_k0 {R : Type} (n : Nat) (kx0 : Int → Option R) (J : Int → Int → Option R) (code2 : List Int) (h8 : Int) (i9 : Int) : Option R :=
  ix i9 code2.length ((bd (w64 ((w64 (h8 * (131 : Int))) + (w64 (code2.getD i9.toNat (0 : Int))))) fun (v10 : Int) => (bd (w64 (((BitVec.ofInt 64 (w64 (v10 + (7 : Int))) &&& BitVec.ofInt 64 (1073741823 : Int)).toNat : Nat) : Int)) fun (v11 : Int) => J v11 (w64 (i9 + (1 : Int))))))
def spec_l1New_L3 {R : Type} (n : Nat) (kx0 : Int → Option R) (J : Int → Int → Option R) (code2 : List Int) (h3 : Int) (i4 : Int) : Option R :=
  (bif (decide (i4 < (code2.length : Int))) then (bif (decide (i4 < (4000 : Int))) then spec_l1New_k0 n kx0 J code2 h3 i4 else kx0 h3) else kx0 h3)
def spec_l1New (n : Nat) (code0 : List Int) : Option Sl1Cur :=
  (bd (w64 ((59059 : Int) + (code0.length : Int))) fun (v1 : Int) => loopN (fun (x : Int × Int) J' => spec_l1New_L3 n (fun h16 => some ((⟨code0, (0 : Int), h16⟩ : Sl1Cur))) (fun h17 i18 => J' (h17, i18)) code0 x.1 x.2) n (v1, (0 : Int)))
def spec_l1Byte (n : Nat) (c0 : Sl1Cur) : Option (Int × Sl1Cur) :=
  (bd (w64 (c0.h * (6364136223846793005 : Int))) fun (v1 : Int) => (bd (w64 (v1 + (1442695040888963407 : Int))) fun (v2 : Int) => (bd (Int.fdiv v2 (2 ^ (min (33 : Int).toNat 64))) fun (v3 : Int) => (bd (Int.fdiv v2 (2 ^ (min (45 : Int).toNat 64))) fun (v4 : Int) => (bd (w64 (((BitVec.ofInt 64 v3 ^^^ BitVec.ofInt 64 v4).toNat : Nat) : Int)) fun (v5 : Int) => (bd (w64 (((BitVec.ofInt 64 v5 &&& BitVec.ofInt 64 (255 : Int)).toNat : Nat) : Int)) fun (v6 : Int) => (bif (decide (c0.i < (c0.b.length : Int))) then ix c0.i c0.b.length ((bd (w64 (v6 + (w64 (c0.b.getD c0.i.toNat (0 : Int))))) fun (v7 : Int) => (bd (w64 (((BitVec.ofInt 64 v7 &&& BitVec.ofInt 64 (255 : Int)).toNat : Nat) : Int)) fun (v8 : Int) => some (v8, (⟨c0.b, (w64 (c0.i + (1 : Int))), v2⟩ : Sl1Cur))))) else some (v6, (⟨c0.b, c0.i, v2⟩ : Sl1Cur)))))))))
def spec_l1Below_k0 (n : Nat)  (n1 : Int) (p3 : Sl1Cur) : Option (Int × Sl1Cur) :=
  (spec_l1Byte n p3).bind fun r4 => (spec_l1Byte n r4.2).bind fun r5 => (spec_l1Byte n r5.2).bind fun r6 => (spec_l1Byte n r6.2).bind fun r7 => (bd (w64 (r4.1 * (16777216 : Int))) fun (v8 : Int) => (bd (w64 (r5.1 * (65536 : Int))) fun (v9 : Int) => (bd (w64 (r6.1 * (256 : Int))) fun (v10 : Int) => (bd (w64 ((w64 (v8 + v9)) + v10)) fun (v11 : Int) => (bif decide (n1 = 0) then none else (bd (Int.tmod (w64 (v11 + r7.1)) n1) fun (v12 : Int) => some (v12, r7.2)))))))
def spec_l1Below (n : Nat) (c0 : Sl1Cur) (n1 : Int) : Option (Int × Sl1Cur) :=
  (bif (decide (n1 ≤ (0 : Int))) then some ((0 : Int), c0) else (bif (decide (n1 ≤ (256 : Int))) then (spec_l1Byte n c0).bind fun r13 => (bif decide (n1 = 0) then none else some ((Int.tmod r13.1 n1), r13.2)) else spec_l1Below_k0 n  n1 c0))
def spec_l22Draw_k0 {R : Type} (n : Nat) (kx2 : Sl1Cur → List SLeg → Option R) (J : Int → Int → Int → Sl1Cur → List SLeg → Option R) (ports13 : Int) (s14 : Int) (port20 : Int) (at21 : Int) (i22 : Int) (p23 : Sl1Cur) (out24 : List SLeg) : Option R :=
  (bd (w64 (port20 + (1 : Int))) fun (v25 : Int) => (bd (w64 (ports13 - (1 : Int))) fun (v26 : Int) => (spec_l1Below n p23 v26).bind fun r27 => (bif decide (ports13 = 0) then none else (bd (Int.tmod (w64 (v25 + r27.1)) ports13) fun (v28 : Int) => (spec_l1Below n r27.2 (20 : Int)).bind fun r29 => (spec_l1Below n r29.2 (20 : Int)).bind fun r30 => (bd (w64 ((w64 (at21 + r29.1)) + (1 : Int))) fun (v31 : Int) => (spec_l1Below n r30.2 (30 : Int)).bind fun r32 => (bd (out24 ++ [(⟨s14, port20, v28, (w64 (at21 + r29.1)), (w64 (v31 + r32.1)), r30.1⟩ : SLeg)]) fun (l33 : List SLeg) => chk (decide (l33.length * 48 ≤ 140737488355328)) (J v28 (w64 (v31 + r32.1)) (w64 (i22 - (1 : Int))) r32.2 l33)))))))
def spec_l22Draw_L8 {R : Type} (n : Nat) (kx2 : Sl1Cur → List SLeg → Option R) (J : Int → Int → Int → Sl1Cur → List SLeg → Option R) (ports13 : Int) (s14 : Int) (port15 : Int) (at16 : Int) (i17 : Int) (p18 : Sl1Cur) (out19 : List SLeg) : Option R :=
  (bif (decide (i17 > (0 : Int))) then spec_l22Draw_k0 n kx2 J ports13 s14 port15 at16 i17 p18 out19 else kx2 p18 out19)
def spec_l22Draw_k1 {R : Type} (n : Nat) (kx0 : List SLeg → Sl1Cur → Option R) (J : Int → Sl1Cur → List SLeg → Option R) (ports3 : Int) (s7 : Int) (p8 : Sl1Cur) (out9 : List SLeg) : Option R :=
  (spec_l1Below n p8 ports3).bind fun r10 => (spec_l1Below n r10.2 (40 : Int)).bind fun r11 => (spec_l1Below n r11.2 (4 : Int)).bind fun r12 => loopN (fun (x : Int × Int × Int × Sl1Cur × List SLeg) J' => spec_l22Draw_L8 n (fun p34 out35 => J (w64 (s7 - (1 : Int))) p34 out35) (fun port36 at37 i38 p39 out40 => J' (port36, at37, i38, p39, out40)) ports3 s7 x.1 x.2.1 x.2.2.1 x.2.2.2.1 x.2.2.2.2) n (r10.1, r11.1, r12.1, r12.2, out9)
def spec_l22Draw_L4 {R : Type} (n : Nat) (kx0 : List SLeg → Sl1Cur → Option R) (J : Int → Sl1Cur → List SLeg → Option R) (ports3 : Int) (s4 : Int) (p5 : Sl1Cur) (out6 : List SLeg) : Option R :=
  (bif (decide (s4 > (0 : Int))) then spec_l22Draw_k1 n kx0 J ports3 s4 p5 out6 else kx0 out6 p5)
def spec_l22Draw (n : Nat) (c0 : Sl1Cur) : Option (List SLeg × Sl1Cur) :=
  (spec_l1Below n c0 (3 : Int)).bind fun r1 => (spec_l1Below n r1.2 (4 : Int)).bind fun r2 => loopN (fun (x : Int × Sl1Cur × List SLeg) J' => spec_l22Draw_L4 n (fun out41 p42 => some (out41, p42)) (fun s43 p44 out45 => J' (s43, p44, out45)) (w64 ((3 : Int) + r1.1)) x.1 x.2.1 x.2.2) n ((w64 ((1 : Int) + r2.1)), r2.2, [])
def spec_DrawLegs (n : Nat) (code0 : List Int) : Option (List SLeg) :=
  (spec_l1New n code0).bind fun r1 => (spec_l22Draw n r1).bind fun r2 => some (r2.1)
def laws_at (n : Nat) (code0 : List Int) (i1 : Int) : Option Int :=
  (bif (decide (i1 < (code0.length : Int))) then ix i1 code0.length (some ((w64 (code0.getD i1.toNat (0 : Int))))) else (bd (w64 ((w64 (i1 * (7 : Int))) + (code0.length : Int))) fun (v3 : Int) => (bd (Int.tmod v3 (256 : Int)) fun (v4 : Int) => some (v4))))
def impl_in (n : Nat) (n0 : Int) (least1 : Int) (most2 : Int) : Option Bool :=
  (bif (decide (n0 ≥ least1)) then some ((decide (n0 ≤ most2))) else some (false))
def impl_linePort (n : Nat) (n0 : Int) : Option Bool :=
  (impl_in n n0 (0 : Int) (19 : Int)).bind fun r1 => some (r1)
def impl_minuteOk (n : Nat) (n0 : Int) : Option Bool :=
  (impl_in n n0 (0 : Int) (100000000 : Int)).bind fun r1 => some (r1)
def impl_LegsOk_k0 {R : Type} (n : Nat) (kx0 : Option R) (kxr : Bool → Option R) (J : Int → List (Int × SLeg) → Option R) (t1 : List SLeg) (t2 : Int) (t39 : Int) (t40 : List (Int × SLeg)) (l41 : SLeg) : Option R :=
  (bd (mgetI t40 l41.Service) fun (g42 : Option SLeg) => (bif g42.isSome then (bif (!(decide ((g42.getD dSLeg).To = l41.From))) then kxr false else (bif (decide (l41.Leaves < (g42.getD dSLeg).Comes)) then kxr false else J (w64 (t39 + (1 : Int))) (mputI t40 l41.Service l41))) else J (w64 (t39 + (1 : Int))) (mputI t40 l41.Service l41)))
def impl_LegsOk_k1 {R : Type} (n : Nat) (kx0 : Option R) (kxr : Bool → Option R) (J : Int → List (Int × SLeg) → Option R) (t1 : List SLeg) (t2 : Int) (t5 : Int) (t6 : List (Int × SLeg)) : Option R :=
  ix t5 t1.length ((bd (t1.getD t5.toNat dSLeg) fun (e7 : SLeg) => (impl_in n e7.Service (1 : Int) (100 : Int)).bind fun r8 => (bif (!r8) then kxr false else (impl_linePort n e7.From).bind fun r12 => (bif (!r12) then kxr false else (impl_linePort n e7.To).bind fun r16 => (bif (!r16) then kxr false else (bif (decide (e7.From = e7.To)) then kxr false else (impl_minuteOk n e7.Leaves).bind fun r23 => (bif (!r23) then kxr false else (impl_minuteOk n e7.Comes).bind fun r27 => (bif (!r27) then kxr false else (bif (decide (e7.Leaves ≥ e7.Comes)) then kxr false else (impl_in n e7.Room (0 : Int) (1000000 : Int)).bind fun r34 => (bif (!r34) then kxr false else impl_LegsOk_k0 n kx0 kxr J t1 t2 t5 t6 e7))))))))))
def impl_LegsOk_L5 {R : Type} (n : Nat) (kx0 : Option R) (kxr : Bool → Option R) (J : Int → List (Int × SLeg) → Option R) (t1 : List SLeg) (t2 : Int) (t3 : Int) (t4 : List (Int × SLeg)) : Option R :=
  (bif (decide (t3 < t2)) then impl_LegsOk_k1 n kx0 kxr J t1 t2 t3 t4 else kx0)
def impl_LegsOk (n : Nat) (legs0 : List SLeg) : Option Bool :=
  (bif (decide ((legs0.length : Int) > (60 : Int))) then some (false) else loopN (fun (x : Int × (List (Int × SLeg))) J' => impl_LegsOk_L5 n (some (true)) (fun t81 => some (t81)) (fun t82 t83 => J' (t82, t83)) legs0 (legs0.length : Int) x.1 x.2) n ((0 : Int), []))
def impl_lineRight (n : Nat) (legs0 : List SLeg) (from1 : Int) (at2 : Int) (change3 : Int) : Option Bool :=
  (impl_LegsOk n legs0).bind fun r1 => (bif r1 then (impl_linePort n from1).bind fun r2 => (bif r2 then (impl_minuteOk n at2).bind fun r3 => (bif r3 then (impl_in n change3 (0 : Int) (10000 : Int)).bind fun r4 => some (r4) else some (false)) else some (false)) else some (false))
def cmp_isNaN_int (n : Nat) (x0 : Int) : Option Bool :=
  some ((!(decide (x0 = x0))))
def cmp_Compare_int (n : Nat) (x0 : Int) (y1 : Int) : Option Int :=
  (cmp_isNaN_int n x0).bind fun r1 => (cmp_isNaN_int n y1).bind fun r2 => (bif r1 then (bif r2 then some ((0 : Int)) else some ((-1 : Int))) else (bif r2 then some ((1 : Int)) else (bif (decide (x0 < y1)) then some ((-1 : Int)) else (bif (decide (x0 > y1)) then some ((1 : Int)) else some ((0 : Int))))))
def impl_Earliest_1 (n : Nat) (a0 : Int) (b1 : Int) (a2 : List SLeg) : Option Int :=
  ix a0 a2.length ((bd (a2.getD a0.toNat dSLeg) fun (e1 : SLeg) => ix b1 a2.length ((bd (a2.getD b1.toNat dSLeg) fun (e2 : SLeg) => (cmp_Compare_int n e1.Leaves e2.Leaves).bind fun r3 => some (r3)))))
def slices_SortFunc_int_int__impl_Earliest_1 (n : Nat) (l0 : List Int) (c0 : List SLeg) : Option (List Int) :=
  sortL (0 : Int) (fun a b => impl_Earliest_1 n a b c0) l0
def impl_changes (n : Nat) (i0 : SLeg) (j1 : SLeg) (change2 : Int) : Option Bool :=
  (bif (decide (i0.Service = j1.Service)) then (bif (decide (i0.To = j1.From)) then (bd (w64 (i0.Comes + (0 : Int))) fun (v3 : Int) => some ((decide (v3 ≤ j1.Leaves)))) else some (false)) else (bif (decide (i0.To = j1.From)) then (bd (w64 (i0.Comes + change2)) fun (v8 : Int) => some ((decide (v8 ≤ j1.Leaves)))) else some (false)))
def impl_Earliest_L5 {R : Type} (n : Nat) (kx0 : List Int → Option R) (J : Int → List Int → Option R) (from2 : Int) (at3 : Int) (change4 : Int) (t5 : Int) (t6 : Int) (legs7 : List SLeg) (out8 : List Int) : Option R :=
  (bif (decide (t6 < t5)) then ix t6 out8.length (chk (decide (t6.toNat < out8.length)) ((bd (out8.set t6.toNat (-1 : Int)) fun (l12 : List Int) => J (w64 (t6 + (1 : Int))) l12))) else kx0 out8)
def impl_Earliest_L12 {R : Type} (n : Nat) (kx2 : List Int → Option R) (J : Int → List Int → Option R) (from14 : Int) (at15 : Int) (change16 : Int) (t17 : Int) (t18 : Int) (legs19 : List SLeg) (out20 : List Int) (order21 : List Int) : Option R :=
  (bif (decide (t18 < t17)) then ix t18 order21.length (chk (decide (t18.toNat < order21.length)) (J (w64 (t18 + (1 : Int))) (order21.set t18.toNat t18))) else kx2 order21)
def impl_Earliest_k0 {R : Type} (n : Nat) (kx6 : List Bool → Option R) (J : Int → List Bool → Option R) (from45 : Int) (at46 : Int) (change47 : Int) (j48 : Int) (t49 : Int) (t50 : Int) (t51 : Int) (t58 : Int) (legs53 : List SLeg) (out54 : List Int) (taken59 : List Bool) (l56 : SLeg) (t57 : List Int) : Option R :=
  ix j48 taken59.length (chk (decide (j48.toNat < taken59.length)) ((bif (taken59.getD j48.toNat false) then ix j48 taken59.length (chk (decide (j48.toNat < taken59.length)) (J (w64 (t58 + (1 : Int))) (taken59.set j48.toNat true))) else ix t58 taken59.length (chk (decide (t58.toNat < taken59.length)) ((bif (taken59.getD t58.toNat false) then ix t58 legs53.length ((bd (legs53.getD t58.toNat dSLeg) fun (e62 : SLeg) => (impl_changes n e62 l56 change47).bind fun r63 => ix j48 taken59.length (chk (decide (j48.toNat < taken59.length)) (J (w64 (t58 + (1 : Int))) (taken59.set j48.toNat r63))))) else ix j48 taken59.length (chk (decide (j48.toNat < taken59.length)) ((bd (taken59.set j48.toNat false) fun (l66 : List Bool) => J (w64 (t58 + (1 : Int))) l66)))))))))
def impl_Earliest_L24 {R : Type} (n : Nat) (kx6 : List Bool → Option R) (J : Int → List Bool → Option R) (from45 : Int) (at46 : Int) (change47 : Int) (j48 : Int) (t49 : Int) (t50 : Int) (t51 : Int) (t52 : Int) (legs53 : List SLeg) (out54 : List Int) (taken55 : List Bool) (l56 : SLeg) (t57 : List Int) : Option R :=
  (bif (decide (t52 < t51)) then impl_Earliest_k0 n kx6 J from45 at46 change47 j48 t49 t50 t51 t52 legs53 out54 taken55 l56 t57 else kx6 taken55)
def impl_Earliest_k1 {R : Type} (n : Nat) (kx4 : List Int → Option R) (J : Int → List Int → List Bool → Option R) (from26 : Int) (at27 : Int) (change28 : Int) (j40 : Int) (t29 : Int) (t41 : Int) (legs31 : List SLeg) (out42 : List Int) (taken43 : List Bool) (l44 : SLeg) (t34 : List Int) : Option R :=
  loopN (fun (x : Int × List Bool) J' => impl_Earliest_L24 n (fun taken69 => ix j40 taken69.length (chk (decide (j40.toNat < taken69.length)) ((bif (taken69.getD j40.toNat false) then ix l44.To out42.length (chk (decide (l44.To.toNat < out42.length)) ((bif (decide ((out42.getD l44.To.toNat (0 : Int)) < (0 : Int))) then ix l44.To out42.length (chk (decide (l44.To.toNat < out42.length)) ((bd (out42.set l44.To.toNat l44.Comes) fun (l78 : List Int) => J (w64 (t41 + (1 : Int))) l78 taken69))) else ix l44.To out42.length (chk (decide (l44.To.toNat < out42.length)) ((bif (decide (l44.Comes < (out42.getD l44.To.toNat (0 : Int)))) then ix l44.To out42.length (chk (decide (l44.To.toNat < out42.length)) ((bd (out42.set l44.To.toNat l44.Comes) fun (l94 : List Int) => J (w64 (t41 + (1 : Int))) l94 taken69))) else J (w64 (t41 + (1 : Int))) out42 taken69)))))) else J (w64 (t41 + (1 : Int))) out42 taken69)))) (fun t111 taken112 => J' (t111, taken112)) from26 at27 change28 j40 t29 t41 (legs31.length : Int) x.1 legs31 out42 x.2 l44 t34) n ((0 : Int), taken43)
def impl_Earliest_k2 {R : Type} (n : Nat) (kx4 : List Int → Option R) (J : Int → List Int → List Bool → Option R) (from26 : Int) (at27 : Int) (change28 : Int) (t29 : Int) (t35 : Int) (legs31 : List SLeg) (out36 : List Int) (taken37 : List Bool) (t34 : List Int) : Option R :=
  ix t35 t34.length (chk (decide (t35.toNat < t34.length)) (ix (t34.getD t35.toNat (0 : Int)) legs31.length ((bd (legs31.getD ((t34.getD t35.toNat (0 : Int)).toNat) dSLeg) fun (e38 : SLeg) => (bif (decide (e38.From = from26)) then ix (t34.getD t35.toNat (0 : Int)) taken37.length (chk (decide ((t34.getD t35.toNat (0 : Int)).toNat < taken37.length)) ((bd (taken37.set ((t34.getD t35.toNat (0 : Int)).toNat) (decide (at27 ≤ e38.Leaves))) fun (l39 : List Bool) => impl_Earliest_k1 n kx4 J from26 at27 change28 (t34.getD t35.toNat (0 : Int)) t29 t35 legs31 out36 l39 e38 t34))) else ix (t34.getD t35.toNat (0 : Int)) taken37.length (chk (decide ((t34.getD t35.toNat (0 : Int)).toNat < taken37.length)) ((bd (taken37.set ((t34.getD t35.toNat (0 : Int)).toNat) false) fun (l113 : List Bool) => impl_Earliest_k1 n kx4 J from26 at27 change28 (t34.getD t35.toNat (0 : Int)) t29 t35 legs31 out36 l113 e38 t34))))))))
def impl_Earliest_L19 {R : Type} (n : Nat) (kx4 : List Int → Option R) (J : Int → List Int → List Bool → Option R) (from26 : Int) (at27 : Int) (change28 : Int) (t29 : Int) (t30 : Int) (legs31 : List SLeg) (out32 : List Int) (taken33 : List Bool) (t34 : List Int) : Option R :=
  (bif (decide (t30 < t29)) then impl_Earliest_k2 n kx4 J from26 at27 change28 t29 t30 legs31 out32 taken33 t34 else kx4 out32)
def impl_Earliest_k3 (n : Nat)  (from1 : Int) (at2 : Int) (change3 : Int) (legs0 : List SLeg) : Option (List Int × Bool) :=
  loopN (fun (x : Int × List Int) J' => impl_Earliest_L5 n (fun out13 => ix from1 out13.length (chk (decide (from1.toNat < out13.length)) (chk (decide ((0 : Int) ≤ (legs0.length : Int))) (chk (decide ((legs0.length : Int) ≤ (legs0.length : Int))) (chk (decide ((legs0.length : Int) ≤ 9223372036854775807 ∧ (legs0.length : Int) * (8 : Int) ≤ 281474976710656)) (loopN (fun (x : Int × List Int) J' => impl_Earliest_L12 n (fun order24 => (slices_SortFunc_int_int__impl_Earliest_1 n order24 legs0).bind fun r25 => chk (decide ((0 : Int) ≤ (legs0.length : Int))) (chk (decide ((legs0.length : Int) ≤ (legs0.length : Int))) (chk (decide ((legs0.length : Int) ≤ 9223372036854775807 ∧ (legs0.length : Int) * (1 : Int) ≤ 281474976710656)) (loopN (fun (x : Int × List Int × List Bool) J' => impl_Earliest_L19 n (fun out119 => some (out119, true)) (fun t120 out121 taken122 => J' (t120, out121, taken122)) from1 at2 change3 (r25.length : Int) x.1 legs0 x.2.1 x.2.2 r25) n ((0 : Int), (out13.set from1.toNat at2), (List.replicate (legs0.length : Int).toNat false)))))) (fun t123 order124 => J' (t123, order124)) from1 at2 change3 ((List.replicate (legs0.length : Int).toNat (0 : Int)).length : Int) x.1 legs0 (out13.set from1.toNat at2) x.2) n ((0 : Int), (List.replicate (legs0.length : Int).toNat (0 : Int))))))))) (fun t125 out126 => J' (t125, out126)) from1 at2 change3 ((List.replicate 20 (0 : Int)).length : Int) x.1 legs0 x.2) n ((0 : Int), (List.replicate 20 (0 : Int)))
def impl_Earliest (n : Nat) (legs0 : List SLeg) (from1 : Int) (at2 : Int) (change3 : Int) : Option (List Int × Bool) :=
  (impl_lineRight n legs0 from1 at2 change3).bind fun r1 => (bif (!r1) then some ([], false) else impl_Earliest_k3 n  from1 at2 change3 legs0)
def impl_Travel_1_k0 (n : Nat)  (j0 : Int) (a1 : List Int) (a2 : List SLeg) (a5 : Int) : Option Bool :=
  (bd (w64 ((a1.length : Int) - (1 : Int))) fun (v4 : Int) => ix v4 a1.length (ix (a1.getD v4.toNat (0 : Int)) a2.length ((bd (a2.getD ((a1.getD v4.toNat (0 : Int)).toNat) dSLeg) fun (e5 : SLeg) => ix j0 a2.length ((bd (a2.getD j0.toNat dSLeg) fun (e6 : SLeg) => (impl_changes n e5 e6 a5).bind fun r7 => some (r7)))))))
def impl_Travel_1 (n : Nat) (j0 : Int) (a1 : List Int) (a2 : List SLeg) (a3 : Int) (a4 : Int) (a5 : Int) : Option Bool :=
  (bif (decide ((a1.length : Int) = (0 : Int))) then ix j0 a2.length ((bd (a2.getD j0.toNat dSLeg) fun (e1 : SLeg) => (bif (decide (e1.From = a3)) then ix j0 a2.length ((bd (a2.getD j0.toNat dSLeg) fun (e2 : SLeg) => some ((decide (a4 ≤ e2.Leaves))))) else some (false)))) else impl_Travel_1_k0 n  j0 a1 a2 a5)
def impl_own_int (n : Nat) (l0 : List Int) : Option (List Int) :=
  chk (decide ((0 : Int) ≤ (l0.length : Int))) (chk (decide ((l0.length : Int) ≤ 9223372036854775807 ∧ (l0.length : Int) * (8 : Int) ≤ 281474976710656)) (chk (decide (l0.length * 8 ≤ 140737488355328)) (some (l0))))
def impl_Travel_k0 {R : Type} (n : Nat) (kx0 : List (List Bool) → Option R) (J : Int → List (List Bool) → Option R) (to9 : Int) (t10 : List SLeg) (t11 : Int) (t19 : Int) (legs13 : List SLeg) (from14 : Int) (at15 : Int) (change16 : Int) (e17 : List Int) (ends20 : List (List Bool)) : Option R :=
  ix t19 t10.length ((bd (t10.getD t19.toNat dSLeg) fun (e21 : SLeg) => ix (0 : Int) ends20.length (chk (decide (0 < ends20.length)) ((bif (decide (e21.To = to9)) then ix to9 e17.length (chk (decide (to9.toNat < e17.length)) (chk (decide (0 < ends20.length)) (ix t19 ((ends20.getD 0 []).length) (chk (decide (0 < ends20.length)) (chk (decide (t19.toNat < (ends20.getD 0 []).length)) ((bd (ends20.set 0 ((ends20.getD 0 []).set t19.toNat (decide (e21.Comes = (e17.getD to9.toNat (0 : Int)))))) fun (l22 : List (List Bool)) => J (w64 (t19 + (1 : Int))) l22))))))) else chk (decide (0 < ends20.length)) (ix t19 ((ends20.getD 0 []).length) (chk (decide (0 < ends20.length)) (chk (decide (t19.toNat < (ends20.getD 0 []).length)) ((bd (ends20.set 0 ((ends20.getD 0 []).set t19.toNat false)) fun (l25 : List (List Bool)) => J (w64 (t19 + (1 : Int))) l25))))))))))
def impl_Travel_L8 {R : Type} (n : Nat) (kx0 : List (List Bool) → Option R) (J : Int → List (List Bool) → Option R) (to9 : Int) (t10 : List SLeg) (t11 : Int) (t12 : Int) (legs13 : List SLeg) (from14 : Int) (at15 : Int) (change16 : Int) (e17 : List Int) (ends18 : List (List Bool)) : Option R :=
  (bif (decide (t12 < t11)) then impl_Travel_k0 n kx0 J to9 t10 t11 t12 legs13 from14 at15 change16 e17 ends18 else kx0 ends18)
def impl_Travel_L21 {R : Type} (n : Nat) (kx6 : Int → Option R) (J : Int → Option R) (n47 : Int) (k48 : Int) (j49 : Int) (legs50 : List SLeg) (from51 : Int) (at52 : Int) (change53 : Int) (ends54 : List (List Bool)) (c55 : List Int) : Option R :=
  (bif (decide (j49 < (legs50.length : Int))) then ix k48 ends54.length (chk (decide (k48.toNat < ends54.length)) (chk (decide (k48.toNat < ends54.length)) (ix j49 ((ends54.getD k48.toNat []).length) (chk (decide (k48.toNat < ends54.length)) (chk (decide (j49.toNat < (ends54.getD k48.toNat []).length)) ((bif ((ends54.getD k48.toNat []).getD j49.toNat false) then (impl_Travel_1 n j49 c55 legs50 from51 at52 change53).bind fun r56 => (bif (!r56) then J (w64 (j49 + (1 : Int))) else kx6 j49) else J (w64 (j49 + (1 : Int)))))))))) else kx6 j49)
def impl_Travel_k1 {R : Type} (n : Nat) (kx4 : List Int → Option R) (J : Int → List Int → Option R) (n37 : Int) (k45 : Int) (legs39 : List SLeg) (from40 : Int) (at41 : Int) (change42 : Int) (ends43 : List (List Bool)) (c46 : List Int) : Option R :=
  loopN (fun (x : Int) J' => impl_Travel_L21 n (fun j65 => (bif (decide (j65 = (legs39.length : Int))) then kx4 c46 else chk (decide ((c46 ++ [j65]).length * 8 ≤ 140737488355328)) (J (w64 (k45 - (1 : Int))) (c46 ++ [j65])))) J' n37 k45 x legs39 from40 at41 change42 ends43 c46) n ((0 : Int))
def impl_Travel_L18 {R : Type} (n : Nat) (kx4 : List Int → Option R) (J : Int → List Int → Option R) (n37 : Int) (k38 : Int) (legs39 : List SLeg) (from40 : Int) (at41 : Int) (change42 : Int) (ends43 : List (List Bool)) (c44 : List Int) : Option R :=
  (bif (decide (k38 ≥ (0 : Int))) then impl_Travel_k1 n kx4 J n37 k38 legs39 from40 at41 change42 ends43 c44 else kx4 c44)
def impl_Travel_k2 {R : Type} (n : Nat) (kx10 : List Bool → Option R) (J : Int → List Bool → Option R) (n89 : Int) (i90 : Int) (t91 : Int) (t92 : Int) (t93 : Int) (t101 : Int) (legs95 : List SLeg) (from96 : Int) (at97 : Int) (change98 : Int) (ends99 : List (List Bool)) (next102 : List Bool) : Option R :=
  ix i90 next102.length (chk (decide (i90.toNat < next102.length)) ((bif (next102.getD i90.toNat false) then ix i90 next102.length (chk (decide (i90.toNat < next102.length)) (J (w64 (t101 + (1 : Int))) (next102.set i90.toNat true))) else ix n89 ends99.length (chk (decide (n89.toNat < ends99.length)) (chk (decide (n89.toNat < ends99.length)) (ix t101 ((ends99.getD n89.toNat []).length) (chk (decide (n89.toNat < ends99.length)) (chk (decide (t101.toNat < (ends99.getD n89.toNat []).length)) ((bif ((ends99.getD n89.toNat []).getD t101.toNat false) then ix i90 legs95.length ((bd (legs95.getD i90.toNat dSLeg) fun (e105 : SLeg) => ix t101 legs95.length ((bd (legs95.getD t101.toNat dSLeg) fun (e106 : SLeg) => (impl_changes n e105 e106 change98).bind fun r107 => ix i90 next102.length (chk (decide (i90.toNat < next102.length)) (J (w64 (t101 + (1 : Int))) (next102.set i90.toNat r107))))))) else ix i90 next102.length (chk (decide (i90.toNat < next102.length)) ((bd (next102.set i90.toNat false) fun (l110 : List Bool) => J (w64 (t101 + (1 : Int))) l110)))))))))))))
def impl_Travel_L32 {R : Type} (n : Nat) (kx10 : List Bool → Option R) (J : Int → List Bool → Option R) (n89 : Int) (i90 : Int) (t91 : Int) (t92 : Int) (t93 : Int) (t94 : Int) (legs95 : List SLeg) (from96 : Int) (at97 : Int) (change98 : Int) (ends99 : List (List Bool)) (next100 : List Bool) : Option R :=
  (bif (decide (t94 < t93)) then impl_Travel_k2 n kx10 J n89 i90 t91 t92 t93 t94 legs95 from96 at97 change98 ends99 next100 else kx10 next100)
def impl_Travel_L29 {R : Type} (n : Nat) (kx8 : List Bool → Option R) (J : Int → List Bool → Option R) (n78 : Int) (t79 : Int) (t80 : Int) (legs81 : List SLeg) (from82 : Int) (at83 : Int) (change84 : Int) (ends85 : List (List Bool)) (next86 : List Bool) : Option R :=
  (bif (decide (t80 < t79)) then loopN (fun (x : Int × List Bool) J' => impl_Travel_L32 n (fun next116 => J (w64 (t80 + (1 : Int))) next116) (fun t117 next118 => J' (t117, next118)) n78 t80 t79 t80 (legs81.length : Int) x.1 legs81 from82 at83 change84 ends85 x.2) n ((0 : Int), next86) else kx8 next86)
def impl_Travel_k3 {R : Type} (n : Nat) (kx2 : Option R) (kxr : Bool → List Int → Option R) (J : Int → List (List Bool) → Option R) (n76 : Int) (legs30 : List SLeg) (from31 : Int) (at32 : Int) (change33 : Int) (ends77 : List (List Bool)) : Option R :=
  chk (decide ((0 : Int) ≤ (legs30.length : Int))) (chk (decide ((legs30.length : Int) ≤ (legs30.length : Int))) (chk (decide ((legs30.length : Int) ≤ 9223372036854775807 ∧ (legs30.length : Int) * (1 : Int) ≤ 281474976710656)) (loopN (fun (x : Int × List Bool) J' => impl_Travel_L29 n (fun next119 => chk (decide ((ends77 ++ [next119]).length * 24 ≤ 140737488355328)) (J (w64 (n76 + (1 : Int))) (ends77 ++ [next119]))) (fun t122 next123 => J' (t122, next123)) n76 (legs30.length : Int) x.1 legs30 from31 at32 change33 ends77 x.2) n ((0 : Int), (List.replicate (legs30.length : Int).toNat false)))))
def impl_Travel_k4 {R : Type} (n : Nat) (kx2 : Option R) (kxr : Bool → List Int → Option R) (J : Int → List (List Bool) → Option R) (n35 : Int) (legs30 : List SLeg) (from31 : Int) (at32 : Int) (change33 : Int) (ends36 : List (List Bool)) : Option R :=
  loopN (fun (x : Int × List Int) J' => impl_Travel_L18 n (fun c74 => (bif (decide ((c74.length : Int) = (w64 (n35 + (1 : Int))))) then (impl_own_int n c74).bind fun r75 => kxr true r75 else impl_Travel_k3 n kx2 kxr J n35 legs30 from31 at32 change33 ends36)) (fun k124 c125 => J' (k124, c125)) n35 x.1 legs30 from31 at32 change33 ends36 x.2) n (n35, [])
def impl_Travel_L13 {R : Type} (n : Nat) (kx2 : Option R) (kxr : Bool → List Int → Option R) (J : Int → List (List Bool) → Option R) (n29 : Int) (legs30 : List SLeg) (from31 : Int) (at32 : Int) (change33 : Int) (ends34 : List (List Bool)) : Option R :=
  (bif (decide (n29 < (6 : Int))) then impl_Travel_k4 n kx2 kxr J n29 legs30 from31 at32 change33 ends34 else kx2)
def impl_Travel_k5 (n : Nat)  (to2 : Int) (legs0 : List SLeg) (from1 : Int) (at3 : Int) (change4 : Int) (t8 : List Int) : Option (List Int × Bool) :=
  chk (decide ((0 : Int) ≤ (legs0.length : Int))) (chk (decide ((legs0.length : Int) ≤ (legs0.length : Int))) (chk (decide ((legs0.length : Int) ≤ 9223372036854775807 ∧ (legs0.length : Int) * (1 : Int) ≤ 281474976710656)) (loopN (fun (x : Int × List (List Bool)) J' => impl_Travel_L8 n (fun ends28 => loopN (fun (x : Int × List (List Bool)) J' => impl_Travel_L13 n (some ([], false)) (fun t126 t127 => some (t127, t126)) (fun n128 ends129 => J' (n128, ends129)) x.1 legs0 from1 at3 change4 x.2) n ((0 : Int), ends28)) (fun t130 ends131 => J' (t130, ends131)) to2 legs0 (legs0.length : Int) x.1 legs0 from1 at3 change4 t8 x.2) n ((0 : Int), [(List.replicate (legs0.length : Int).toNat false)]))))
def impl_Travel (n : Nat) (legs0 : List SLeg) (from1 : Int) (to2 : Int) (at3 : Int) (change4 : Int) : Option (List Int × Bool) :=
  (impl_Earliest n legs0 from1 at3 change4).bind fun r1 => (bif (!r1.2) then some ([], false) else (impl_linePort n to2).bind fun r3 => (bif (!r3) then some ([], false) else ix to2 r1.1.length (chk (decide (to2.toNat < r1.1.length)) ((bif (decide ((r1.1.getD to2.toNat (0 : Int)) < (0 : Int))) then some ([], false) else (bif (decide (from1 = to2)) then some ([], true) else impl_Travel_k5 n  to2 legs0 from1 at3 change4 r1.1))))))
def laws_FnTravel_k0 {R : Type} (n : Nat) (kx0 : Option R) (kxr : Bool → Option R) (J : Int → Option R) (from49 : Int) (to50 : Int) (start51 : Int) (change52 : Int) (p57 : Int) (legs54 : List SLeg) (soon55 : List Int) (late56 : List Int) : Option R :=
  ix p57 soon55.length (chk (decide (p57.toNat < soon55.length)) ((bif (decide ((soon55.getD p57.toNat (0 : Int)) ≥ (0 : Int))) then ix p57 soon55.length (chk (decide (p57.toNat < soon55.length)) ((bif (decide ((soon55.getD p57.toNat (0 : Int)) < start51)) then kxr false else ix p57 soon55.length (chk (decide (p57.toNat < soon55.length)) ((bif (decide ((soon55.getD p57.toNat (0 : Int)) < (0 : Int))) then ix p57 late56.length (chk (decide (p57.toNat < late56.length)) ((bif (decide ((late56.getD p57.toNat (0 : Int)) ≥ (0 : Int))) then kxr false else ix p57 soon55.length (chk (decide (p57.toNat < soon55.length)) ((bif (decide ((soon55.getD p57.toNat (0 : Int)) ≥ (0 : Int))) then ix p57 late56.length (chk (decide (p57.toNat < late56.length)) ((bif (decide ((late56.getD p57.toNat (0 : Int)) ≥ (0 : Int))) then ix p57 late56.length (chk (decide (p57.toNat < late56.length)) (ix p57 soon55.length (chk (decide (p57.toNat < soon55.length)) ((bif (decide ((late56.getD p57.toNat (0 : Int)) < (soon55.getD p57.toNat (0 : Int)))) then kxr false else J (w64 (p57 + (1 : Int)))))))) else J (w64 (p57 + (1 : Int)))))) else J (w64 (p57 + (1 : Int))))))))) else ix p57 soon55.length (chk (decide (p57.toNat < soon55.length)) ((bif (decide ((soon55.getD p57.toNat (0 : Int)) ≥ (0 : Int))) then ix p57 late56.length (chk (decide (p57.toNat < late56.length)) ((bif (decide ((late56.getD p57.toNat (0 : Int)) ≥ (0 : Int))) then ix p57 late56.length (chk (decide (p57.toNat < late56.length)) (ix p57 soon55.length (chk (decide (p57.toNat < soon55.length)) ((bif (decide ((late56.getD p57.toNat (0 : Int)) < (soon55.getD p57.toNat (0 : Int)))) then kxr false else J (w64 (p57 + (1 : Int)))))))) else J (w64 (p57 + (1 : Int)))))) else J (w64 (p57 + (1 : Int)))))))))))) else ix p57 soon55.length (chk (decide (p57.toNat < soon55.length)) ((bif (decide ((soon55.getD p57.toNat (0 : Int)) < (0 : Int))) then ix p57 late56.length (chk (decide (p57.toNat < late56.length)) ((bif (decide ((late56.getD p57.toNat (0 : Int)) ≥ (0 : Int))) then kxr false else ix p57 soon55.length (chk (decide (p57.toNat < soon55.length)) ((bif (decide ((soon55.getD p57.toNat (0 : Int)) ≥ (0 : Int))) then ix p57 late56.length (chk (decide (p57.toNat < late56.length)) ((bif (decide ((late56.getD p57.toNat (0 : Int)) ≥ (0 : Int))) then ix p57 late56.length (chk (decide (p57.toNat < late56.length)) (ix p57 soon55.length (chk (decide (p57.toNat < soon55.length)) ((bif (decide ((late56.getD p57.toNat (0 : Int)) < (soon55.getD p57.toNat (0 : Int)))) then kxr false else J (w64 (p57 + (1 : Int)))))))) else J (w64 (p57 + (1 : Int)))))) else J (w64 (p57 + (1 : Int))))))))) else ix p57 soon55.length (chk (decide (p57.toNat < soon55.length)) ((bif (decide ((soon55.getD p57.toNat (0 : Int)) ≥ (0 : Int))) then ix p57 late56.length (chk (decide (p57.toNat < late56.length)) ((bif (decide ((late56.getD p57.toNat (0 : Int)) ≥ (0 : Int))) then ix p57 late56.length (chk (decide (p57.toNat < late56.length)) (ix p57 soon55.length (chk (decide (p57.toNat < soon55.length)) ((bif (decide ((late56.getD p57.toNat (0 : Int)) < (soon55.getD p57.toNat (0 : Int)))) then kxr false else J (w64 (p57 + (1 : Int)))))))) else J (w64 (p57 + (1 : Int)))))) else J (w64 (p57 + (1 : Int))))))))))))
def laws_FnTravel_L12 {R : Type} (n : Nat) (kx0 : Option R) (kxr : Bool → Option R) (J : Int → Option R) (from49 : Int) (to50 : Int) (start51 : Int) (change52 : Int) (p53 : Int) (legs54 : List SLeg) (soon55 : List Int) (late56 : List Int) : Option R :=
  (bif (decide (p53 < (soon55.length : Int))) then laws_FnTravel_k0 n kx0 kxr J from49 to50 start51 change52 p53 legs54 soon55 late56 else kx0)
def laws_FnTravel_k1 {R : Type} (n : Nat) (kx2 : Int → Int → Option R) (kxr : Bool → Option R) (J : Int → Int → Int → Int → Option R) (to100 : Int) (change101 : Int) (port109 : Int) (now110 : Int) (service111 : Int) (i112 : Int) (legs106 : List SLeg) (soon107 : List Int) (way108 : List Int) : Option R :=
  ix i112 way108.length (chk (decide (i112.toNat < way108.length)) (ix (way108.getD i112.toNat (0 : Int)) legs106.length (chk (decide ((way108.getD i112.toNat (0 : Int)).toNat < legs106.length)) ((bd (legs106.getD ((way108.getD i112.toNat (0 : Int)).toNat) dSLeg) fun (e113 : SLeg) => (bif (!(decide (e113.From = port109))) then kxr false else (bif (decide (e113.Leaves < now110)) then kxr false else (bif (!(decide (service111 = (0 : Int)))) then (bif (!(decide (service111 = e113.Service))) then (bd (w64 (now110 + change101)) fun (v118 : Int) => (bif (decide (e113.Leaves < v118)) then kxr false else J e113.To e113.Comes e113.Service (w64 (i112 + (1 : Int))))) else J e113.To e113.Comes e113.Service (w64 (i112 + (1 : Int)))) else J e113.To e113.Comes e113.Service (w64 (i112 + (1 : Int)))))))))))
def laws_FnTravel_L21 {R : Type} (n : Nat) (kx2 : Int → Int → Option R) (kxr : Bool → Option R) (J : Int → Int → Int → Int → Option R) (to100 : Int) (change101 : Int) (port102 : Int) (now103 : Int) (service104 : Int) (i105 : Int) (legs106 : List SLeg) (soon107 : List Int) (way108 : List Int) : Option R :=
  (bif (decide (i105 < (way108.length : Int))) then laws_FnTravel_k1 n kx2 kxr J to100 change101 port102 now103 service104 i105 legs106 soon107 way108 else kx2 port102 now103)
def laws_FnTravel_k2 (n : Nat)  (from93 : Int) (to94 : Int) (start95 : Int) (change96 : Int) (legs97 : List SLeg) (soon98 : List Int) (t99 : List Int) : Option Bool :=
  loopN (fun (x : Int × Int × Int × Int) J' => laws_FnTravel_L21 n (fun port160 now161 => (bif (decide (port160 = to94)) then ix to94 soon98.length (chk (decide (to94.toNat < soon98.length)) (some ((decide (now161 = (soon98.getD to94.toNat (0 : Int))))))) else some (false))) (fun t163 => some (t163)) (fun port164 now165 service166 i167 => J' (port164, now165, service166, i167)) to94 change96 x.1 x.2.1 x.2.2.1 x.2.2.2 legs97 soon98 t99) n (from93, start95, (0 : Int), (0 : Int))
def laws_FnTravel_k3 (n : Nat)  (from42 : Int) (to43 : Int) (start44 : Int) (change45 : Int) (t46 : List SLeg) (t47 : List Int) (t48 : List Int) : Option Bool :=
  loopN (fun (x : Int) J' => laws_FnTravel_L12 n ((impl_Travel n t46 from42 to43 start44 change45).bind fun r91 => (bif (!r91.2) then (bif (decide ((r91.1.length : Int) = (0 : Int))) then ix to43 t47.length (chk (decide (to43.toNat < t47.length)) ((bif (decide ((t47.getD to43.toNat (0 : Int)) < (0 : Int))) then some (true) else some ((decide ((t46.length : Int) > (6 : Int))))))) else some (false)) else laws_FnTravel_k2 n  from42 to43 start44 change45 t46 t47 r91.1)) (fun t168 => some (t168)) J' from42 to43 start44 change45 x t46 t47 t48) n ((0 : Int))
def laws_FnTravel_k4 (n : Nat)  (from27 : Int) (to28 : Int) (start29 : Int) (change30 : Int) (t31 : Bool) (t32 : List SLeg) (t33 : List Int) : Option Bool :=
  (bif t31 then some (false) else (bd (w64 (start29 + (5 : Int))) fun (v170 : Int) => (impl_Earliest n t32 from27 v170 change30).bind fun r171 => (bif (!(decide ((r171.1.length : Int) = (t33.length : Int)))) then some (false) else laws_FnTravel_k3 n  from27 to28 start29 change30 t32 t33 r171.1)))
def laws_FnTravel_k5 (n : Nat)  (code0 : List Int) : Option Bool :=
  (spec_DrawLegs n code0).bind fun r2 => (laws_at n code0 (1 : Int)).bind fun r3 => (laws_at n code0 (2 : Int)).bind fun r4 => (laws_at n code0 (3 : Int)).bind fun r5 => (laws_at n code0 (4 : Int)).bind fun r6 => (impl_Earliest n r2 (Int.tmod r3 (6 : Int)) (Int.tmod r5 (40 : Int)) (Int.tmod r6 (12 : Int))).bind fun r7 => (impl_LegsOk n r2).bind fun r8 => (bif (!r8) then some (false) else (bif (!r7.2) then some (false) else (bif (!(decide ((r7.1.length : Int) = (20 : Int)))) then some (false) else ix (Int.tmod r3 (6 : Int)) r7.1.length (chk (decide ((Int.tmod r3 (6 : Int)).toNat < r7.1.length)) (laws_FnTravel_k4 n  (Int.tmod r3 (6 : Int)) (Int.tmod r4 (6 : Int)) (Int.tmod r5 (40 : Int)) (Int.tmod r6 (12 : Int)) (!(decide ((r7.1.getD ((Int.tmod r3 (6 : Int)).toNat) (0 : Int)) = (Int.tmod r5 (40 : Int))))) r2 r7.1)))))
def laws_FnTravel (n : Nat) (code0 : List Int) : Option Bool :=
  (laws_big n code0).bind fun r1 => (bif r1 then some (true) else laws_FnTravel_k5 n  code0)
def rng (a b x : Int) : Prop := a ≤ x ∧ x ≤ b
def wfSLeg (x : SLeg) : Prop := rng (-9223372036854775808) 9223372036854775807 x.Service ∧ rng (-9223372036854775808) 9223372036854775807 x.From ∧ rng (-9223372036854775808) 9223372036854775807 x.To ∧ rng (-9223372036854775808) 9223372036854775807 x.Leaves ∧ rng (-9223372036854775808) 9223372036854775807 x.Comes ∧ rng (-9223372036854775808) 9223372036854775807 x.Room
def wfSl1Cur (x : Sl1Cur) : Prop := (x.b.length ≤ 9223372036854775807 ∧ ∀ y ∈ x.b, rng 0 255 y) ∧ rng (-9223372036854775808) 9223372036854775807 x.i ∧ rng (-9223372036854775808) 9223372036854775807 x.h
end Go.Sm

section
set_option linter.unusedSimpArgs false
set_option linter.deprecated false
set_option linter.unusedSectionVars false
set_option linter.unusedVariables false
namespace Go.Sm
/-! ### Of the words that printed functions are made of -/
theorem w64_id {x : Int} (h1 : -9223372036854775808 ≤ x) (h2 : x ≤ 9223372036854775807) : w64 x = x := by
  show (let m := x % (2 ^ 64 : Int); if (true && decide ((2 : Int) ^ 63 ≤ m)) = true then m - 2 ^ 64 else m) = x
  simp only [Bool.true_and, decide_eq_true_eq]
  split <;> omega
theorem w64_rng (x : Int) : -9223372036854775808 ≤ w64 x ∧ w64 x ≤ 9223372036854775807 := by
  show -9223372036854775808 ≤ (let m := x % (2 ^ 64 : Int); if (true && decide ((2 : Int) ^ 63 ≤ m)) = true then m - 2 ^ 64 else m) ∧ (let m := x % (2 ^ 64 : Int); if (true && decide ((2 : Int) ^ 63 ≤ m)) = true then m - 2 ^ 64 else m) ≤ 9223372036854775807
  simp only [Bool.true_and, decide_eq_true_eq]
  split <;> omega
theorem chk_of {R : Type} {b : Bool} {x : Option R} (h : b = true) : chk b x = x := by rw [h]; rfl
theorem chk_true {R : Type} {x : Option R} : chk true x = x := rfl
theorem chk_dec {R : Type} {p : Prop} [Decidable p] {x : Option R} (h : p) : chk (decide p) x = x := chk_of (decide_eq_true h)
theorem ix_of {R : Type} {i : Int} {len : Nat} {x : Option R} (h0 : 0 ≤ i) (h1 : i < (len : Int)) : ix i len x = x := by
  unfold ix
  rw [decide_eq_true h0, decide_eq_true h1]
  rfl
theorem ix_nat {R : Type} {i len : Nat} {x : Option R} (h1 : i < len) : ix (i : Int) len x = x := ix_of (by omega) (by omega)
theorem bif_dec {α : Type} {p : Prop} [Decidable p] {x y : α} : (bif decide p then x else y) = if p then x else y := by
  by_cases h : p <;> simp [h]
theorem bif_not {α : Type} {b : Bool} {x y : α} : (bif !b then x else y) = bif b then y else x := by cases b <;> rfl
theorem bif_and {α : Type} {a b : Bool} {x y : α} : (bif a && b then x else y) = bif a then (bif b then x else y) else y := by cases a <;> rfl
theorem loopN_succ {X R : Type} (b : X → (X → Option R) → Option R) (m : Nat) (x : X) : loopN b (m + 1) x = b x (loopN b m) := rfl
/-- What holds of a loop: by what is left to go. -/
theorem loopN_ind {X R : Type} {b : X → (X → Option R) → Option R} (μ : X → Nat) (I : X → Prop) (Q : X → Option R → Prop)
    (h : ∀ x J, I x → (∀ y, I y → μ y < μ x → Q y (J y)) → Q x (b x J)) : ∀ n x, I x → μ x < n → Q x (loopN b n x)
  | 0, x, hi, hm => absurd hm (Nat.not_lt_zero _)
  | n + 1, x, hi, hm => h x (loopN b n) hi fun y hy hl => loopN_ind μ I Q h n y hy (by omega)
theorem getD_eq {α : Type} {l : List α} {i : Nat} {d : α} (h : i < l.length) : l.getD i d = l[i] := by
  simp [List.getD, h]
theorem w64_succ {k : Nat} (h : k < 9223372036854775807) : w64 ((k : Int) + 1) = ((k + 1 : Nat) : Int) := by
  rw [w64_id (by omega) (by omega)]
  rfl
theorem take_succ_getD {α : Type} {l : List α} {i : Nat} {d : α} (h : i < l.length) : l.take (i + 1) = l.take i ++ [l.getD i d] := by
  rw [List.take_succ, getD_eq h, List.getElem?_eq_getElem h]
  rfl
theorem drop_getD {α : Type} {l : List α} {i : Nat} {d : α} (h : i < l.length) : l.drop i = l.getD i d :: l.drop (i + 1) := by
  rw [getD_eq h]
  exact List.drop_eq_getElem_cons h
theorem bd_eq {α β : Type} (e : α) (f : α → β) : bd e f = f e := rfl
theorem bd_set {α β : Type} {Q : β → Prop} {F : List α → β} {p : List α} {i : Nat} {x : α} (h : ∀ l : List α, l.length = p.length → Q (F l)) : Q (bd (p.set i x) F) := h _ (by simp)
theorem bd_is {α β : Type} {Q : β → Prop} {F : α → β} {e : α} (h : ∀ v : α, v = e → Q (F v)) : Q (bd e F) := h _ rfl
theorem bd_val {α β : Type} {Q : β → Prop} {F : α → β} {e : α} (h : ∀ v : α, Q (F v)) : Q (bd e F) := h _
theorem chk_q {R : Type} {Q : Option R → Prop} {b : Bool} {x : Option R} (h : b = true) (hx : Q x) : Q (chk b x) := by rw [chk_of h]; exact hx
theorem ix_q {R : Type} {Q : Option R → Prop} {i : Int} {len : Nat} {x : Option R} (h0 : 0 ≤ i) (h1 : i < (len : Int)) (hx : Q x) : Q (ix i len x) := by rw [ix_of h0 h1]; exact hx
theorem bd_upd {α β : Type} {Q : β → Prop} {F : List α → β} {p : List α} {i : Nat} {x d : α} (hi : i < p.length) (h : ∀ l : List α, l.length = p.length → l.getD i d = x → (∀ j, j ≠ i → l.getD j d = p.getD j d) → Q (F l)) : Q (bd (p.set i x) F) :=
  h _ (by simp) (by simp [List.getD, hi]) (fun j hj => by simp [List.getD, List.getElem?_set, Ne.symm hj])
/-- A list written from the front. -/
theorem set_take {α : Type} {a : List α} {d : α} {m k : Nat} (h : k < a.length) (hm : m = a.length := by rfl) : (a.take k ++ (List.replicate m d).drop k).set k (a.getD k d) = a.take (k + 1) ++ (List.replicate m d).drop (k + 1) := by
  subst hm
  have h1 : (a.take k).length = k := by simp; omega
  rw [List.set_append_right _ _ (by omega), h1, Nat.sub_self, take_succ_getD h, List.append_assoc]
  congr 1
  rw [List.drop_eq_getElem_cons (by simp; exact h)]
  rfl
/-! ### Loops over 0 .. len, by what is left -/
/-- Steps k, k+1, .. told one after the other; J: what comes behind a step. -/
def forK {S R : Type} (step : Nat → S → (S → Option R) → Option R) (fin : S → Option R) : Nat → Nat → S → Option R
  | 0, _, s => fin s
  | m + 1, k, s => step k s fun s' => forK step fin m (k + 1) s'
theorem loop_forK {X S R : Type} {b : X → (X → Option R) → Option R} {enc : Nat → S → X} {len : Nat} {step : Nat → S → (S → Option R) → Option R} {fin : S → Option R} (I : Nat → S → Prop)
    (hstep : ∀ k s J J', k < len → I k s → (∀ s', I (k + 1) s' → J (enc (k + 1) s') = J' s') → b (enc k s) J = step k s J') (hfin : ∀ s J, I len s → b (enc len s) J = fin s) :
    ∀ m k s n, k + m = len → m < n → I k s → loopN b n (enc k s) = forK step fin m k s
  | 0, k, s, 0, _, h, _ => absurd h (Nat.lt_irrefl _)
  | 0, k, s, n + 1, hk, _, hi => by
    have hk : k = len := by omega
    subst hk
    exact hfin s _ hi
  | m + 1, k, s, 0, _, h, _ => absurd h (Nat.not_lt_zero _)
  | m + 1, k, s, n + 1, hk, hn, hi => by
    show b (enc k s) (loopN b n) = step k s fun s' => forK step fin m (k + 1) s'
    exact hstep k s _ _ (by omega) hi fun s' hi' => loop_forK I hstep hfin m (k + 1) s' n (by omega) (by omega) hi'
/-- The first k at which f answers; at none: z. -/
def scanK {R : Type} (f : Nat → Option (Option R)) (z : Option R) : Nat → Nat → Option R
  | 0, _ => z
  | m + 1, k => match f k with
    | some r => r
    | none => scanK f z m (k + 1)
theorem loop_scan {X R : Type} {b : X → (X → Option R) → Option R} {enc : Nat → X} {len : Nat} {f : Nat → Option (Option R)} {z : Option R}
    (hstep : ∀ k J, k < len → b (enc k) J = match f k with | some r => r | none => J (enc (k + 1))) (hfin : ∀ J, b (enc len) J = z) :
    ∀ m k n, k + m = len → m < n → loopN b n (enc k) = scanK f z m k
  | 0, k, 0, _, h => absurd h (Nat.lt_irrefl _)
  | 0, k, n + 1, hk, _ => by
    have hk : k = len := by omega
    subst hk
    exact hfin _
  | m + 1, k, 0, _, h => absurd h (Nat.not_lt_zero _)
  | m + 1, k, n + 1, hk, hn => by
    show b (enc k) (loopN b n) = _
    rw [hstep k _ (by omega)]
    unfold scanK
    cases f k with
    | some r => rfl
    | none => exact loop_scan hstep hfin m (k + 1) n (by omega) (by omega)
/-- Is p so of all of k, .. k + m - 1? -/
theorem scan_all {R : Type} {p : Nat → Bool} {r z : Option R} : ∀ m k, scanK (fun k => bif p k then none else some r) z m k = bif (List.range' k m).all p then z else r
  | 0, k => rfl
  | m + 1, k => by
    rw [scanK, List.range'_succ, List.all_cons]
    cases h : p k with
    | true => simp only [cond_true, Bool.true_and]; exact scan_all m (k + 1)
    | false => rfl
theorem scan_any {R : Type} {p : Nat → Bool} {r z : Option R} : ∀ m k, scanK (fun k => bif p k then some r else none) z m k = bif (List.range' k m).any p then r else z
  | 0, k => rfl
  | m + 1, k => by
    rw [scanK, List.range'_succ, List.any_cons]
    cases h : p k with
    | false => simp only [cond_false, Bool.false_or]; exact scan_any m (k + 1)
    | true => rfl
theorem mgetI_mputI {β : Type} (l : List (Int × β)) (n m : Int) (v : β) : mgetI (mputI l n v) m = if m = n then some v else mgetI l m := by
  unfold mgetI mputI
  induction l with
  | nil =>
    by_cases h : m = n <;> simp [h]
  | cons a l ih =>
    rw [List.findIdx?_cons]
    by_cases h : n = a.1
    · simp only [h, decide_true, if_true, Option.elim_some, List.set_cons_zero, List.find?_cons]
      by_cases h2 : m = a.1
      · simp [h2]
      · simp [h2]
    · simp only [h, decide_false, Bool.false_eq_true, if_false]
      cases hf : l.findIdx? (fun e => decide (n = e.1)) with
      | none =>
        rw [hf] at ih
        simp only [Option.elim_none] at ih
        simp only [Option.map_none, Option.elim_none, List.cons_append, List.find?_cons]
        by_cases h2 : m = a.1
        · have : m ≠ n := fun e => h (e ▸ h2)
          simp [h2]
          simp [h2] at this
          simp [this]
        · simp only [h2, decide_false]
          exact ih
      | some i =>
        rw [hf] at ih
        simp only [Option.elim_some] at ih
        simp only [Option.map_some, Option.elim_some, List.set_cons_succ, List.find?_cons]
        by_cases h2 : m = a.1
        · have : m ≠ n := fun e => h (e ▸ h2)
          simp [h2]
          simp [h2] at this
          simp [this]
        · simp only [h2, decide_false]
          exact ih
theorem mgetI_nil {β : Type} (m : Int) : mgetI ([] : List (Int × β)) m = none := rfl
/-! ### Chains of tests -/
theorem bif_and' {α : Type} {a b : Bool} {x y : α} : (bif a then (bif b then x else y) else y) = bif a && b then x else y := by cases a <;> rfl
theorem bif_or' {α : Type} {a b : Bool} {x y : α} : (bif a then y else (bif b then x else y)) = bif !a && b then x else y := by cases a <;> rfl
theorem bif_and2 {α : Type} {a b : Bool} {x y : α} : (bif a then (bif b then y else x) else y) = bif a && !b then x else y := by cases a <;> cases b <;> rfl
theorem bif_or2 {α : Type} {a b : Bool} {x y : α} : (bif a then y else (bif b then y else x)) = bif !a && !b then x else y := by cases a <;> cases b <;> rfl
theorem bif_some {α β : Type} {a : Bool} {x y : α} {f : α → Option β} : (bif a then some x else some y).bind f = bif a then f x else f y := by cases a <;> rfl
theorem bif_tf {a : Bool} : (bif a then some true else some false) = some a := by cases a <;> rfl
theorem bif_ft {a : Bool} : (bif a then some false else some true) = some (!a) := by cases a <;> rfl
theorem bif_sf {a b : Bool} : (bif a then some b else some false) = some (a && b) := by cases a <;> rfl
theorem all_range_succ {p : Nat → Bool} {k : Nat} : (List.range (k + 1)).all p = ((List.range k).all p && p k) := by
  rw [List.range_succ, List.all_append]
  simp
theorem any_range_succ {p : Nat → Bool} {k : Nat} : (List.range (k + 1)).any p = ((List.range k).any p || p k) := by
  rw [List.range_succ, List.any_append]
  simp
theorem all_range_not {p : Nat → Bool} {k m : Nat} (hk : k < m) (h : p k = false) : (List.range m).all p = false := by
  rw [Bool.eq_false_iff]
  intro e
  rw [List.all_eq_true] at e
  rw [e k (List.mem_range.2 hk)] at h
  cases h
theorem any_range_of {p : Nat → Bool} {k m : Nat} (hk : k < m) (h : p k = true) : (List.range m).any p = true := by
  rw [List.any_eq_true]
  exact ⟨k, List.mem_range.2 hk, h⟩
/-- A loop that looks at k = 0, 1, .. and leaves at the first that is not so. -/
theorem loop_all {R : Type} {b : Int → (Int → Option R) → Option R} {len : Nat} {p : Nat → Bool} {no yes : Option R} (hlen : len ≤ 9223372036854775807)
    (hstep : ∀ (k : Nat) (J : Int → Option R), k < len → (∀ j, j < k → p j = true) → b (k : Int) J = bif p k then J ((k + 1 : Nat) : Int) else no) (hfin : ∀ J, (∀ j, j < len → p j = true) → b (len : Int) J = yes) {n : Nat} (hn : len < n) :
    loopN b n (0 : Int) = bif (List.range len).all p then yes else no := by
  refine loopN_ind (fun x => len - x.toNat) (fun x => ∃ k : Nat, k ≤ len ∧ x = (k : Int) ∧ (List.range k).all p = true) (fun x r => r = bif (List.range len).all p then yes else no) ?_ n _ ⟨0, by omega, rfl, rfl⟩ (by simp; omega)
  rintro _ J ⟨k, hk, rfl, hb⟩ ih
  have hb' : ∀ j, j < k → p j = true := fun j hj => List.all_eq_true.1 hb j (List.mem_range.2 hj)
  by_cases h : k < len
  · rw [hstep k J h hb']
    cases hp : p k with
    | true => exact ih _ ⟨k + 1, h, rfl, by rw [all_range_succ, hb, hp]; rfl⟩ (by simp; omega)
    | false => rw [all_range_not h hp]; rfl
  · have : k = len := by omega
    subst this
    rw [hfin _ hb', hb]
    rfl
/-- The same, a state turned on the way (its invariant: I). -/
theorem loop_allS {S R : Type} {X : Type} {enc : Int → S → X} {b : X → (X → Option R) → Option R} {len : Nat} {p : Nat → Bool} {I : Nat → S → Prop} {no yes : Option R}
    (hstep : ∀ (k : Nat) (s : S) (J : X → Option R), k < len → I k s → (∀ j, j < k → p j = true) → ∃ s', (p k = true → I (k + 1) s') ∧ b (enc (k : Int) s) J = bif p k then J (enc ((k + 1 : Nat) : Int) s') else no) (hfin : ∀ s J, I len s → (∀ j, j < len → p j = true) → b (enc (len : Int) s) J = yes) {n : Nat} (hn : len < n) {s0 : S} (h0 : I 0 s0) :
    loopN b n (enc (0 : Int) s0) = bif (List.range len).all p then yes else no := by
  have key : ∀ m (k : Nat) (s : S) n, k + m = len → m < n → I k s → (List.range k).all p = true → loopN b n (enc (k : Int) s) = bif (List.range len).all p then yes else no := by
    intro m
    induction m with
    | zero =>
      intro k s n hk hn hi hb
      have hb' : ∀ j, j < k → p j = true := fun j hj => List.all_eq_true.1 hb j (List.mem_range.2 hj)
      have hk : k = len := by omega
      subst hk
      cases n with
      | zero => omega
      | succ n => rw [loopN_succ, hfin s _ hi hb', hb]; rfl
    | succ m ih =>
      intro k s n hk hn hi hb
      have hb' : ∀ j, j < k → p j = true := fun j hj => List.all_eq_true.1 hb j (List.mem_range.2 hj)
      cases n with
      | zero => omega
      | succ n =>
        rw [loopN_succ]
        obtain ⟨s', h1, h2⟩ := hstep k s (loopN b n) (by omega) hi hb'
        rw [h2]
        cases hp : p k with
        | true => exact ih (k + 1) s' n (by omega) (by omega) (h1 hp) (by rw [all_range_succ, hb, hp]; rfl)
        | false => rw [all_range_not (by omega : k < len) hp]; rfl
  exact key len 0 s0 n (by omega) hn h0 rfl
/-- A loop over 0 .. len that never leaves early; its state: I. -/
theorem loop_runS {S R : Type} {X : Type} {enc : Int → S → X} {b : X → (X → Option R) → Option R} {len : Nat} {I : Nat → S → Prop} {Q : Option R → Prop}
    (hstep : ∀ (k : Nat) (s : S) (J : X → Option R), k < len → I k s → ∃ s', I (k + 1) s' ∧ b (enc (k : Int) s) J = J (enc ((k + 1 : Nat) : Int) s')) (hfin : ∀ s J, I len s → Q (b (enc (len : Int) s) J)) {n : Nat} (hn : len < n) {s0 : S} (h0 : I 0 s0) :
    Q (loopN b n (enc (0 : Int) s0)) := by
  have key : ∀ m (k : Nat) (s : S) n, k + m = len → m < n → I k s → Q (loopN b n (enc (k : Int) s)) := by
    intro m
    induction m with
    | zero =>
      intro k s n hk hn hi
      have hk : k = len := by omega
      subst hk
      cases n with
      | zero => omega
      | succ n => rw [loopN_succ]; exact hfin s _ hi
    | succ m ih =>
      intro k s n hk hn hi
      cases n with
      | zero => omega
      | succ n =>
        rw [loopN_succ]
        obtain ⟨s', h1, h2⟩ := hstep k s (loopN b n) (by omega) hi
        rw [h2]
        exact ih (k + 1) s' n (by omega) (by omega) h1
  exact key len 0 s0 n (by omega) hn h0
/-! ### Sums over lists -/
def sumOf {α : Type} (f : α → Nat) : List α → Nat
  | [] => 0
  | a :: l => f a + sumOf f l
theorem sumOf_append {α : Type} (f : α → Nat) : ∀ a b : List α, sumOf f (a ++ b) = sumOf f a + sumOf f b
  | [], b => by simp [sumOf]
  | x :: a, b => by simp only [List.cons_append, sumOf, sumOf_append f a b]; omega
theorem sumOf_take_succ {α : Type} {f : α → Nat} {l : List α} {k : Nat} {d : α} (h : k < l.length) : sumOf f (l.take (k + 1)) = sumOf f (l.take k) + f (l.getD k d) := by
  rw [take_succ_getD (d := d) h, sumOf_append]
  simp [sumOf]
theorem sumOf_take_le {α : Type} (f : α → Nat) (l : List α) (k : Nat) : sumOf f (l.take k) ≤ sumOf f l := by
  have := sumOf_append f (l.take k) (l.drop k)
  rw [List.take_append_drop] at this
  omega
theorem sumOf_mem {α : Type} {f : α → Nat} {l : List α} {k : Nat} {d : α} (h : k < l.length) : f (l.getD k d) ≤ sumOf f l := by
  have h1 := sumOf_take_succ (f := f) (d := d) h
  have h2 := sumOf_take_le f l (k + 1)
  omega
theorem sumOf_lin {α : Type} {f g : α → Nat} {c s : Nat} (h : ∀ y, f y ≤ c * g y + s) : ∀ l : List α, sumOf f l ≤ c * sumOf g l + s * l.length
  | [] => by simp [sumOf]
  | a :: l => by
    have h1 := h a
    have h2 := sumOf_lin h l
    simp only [sumOf, List.length_cons, Nat.mul_add, Nat.mul_succ]
    omega
theorem sumOf_const {α : Type} (c : Nat) : ∀ l : List α, sumOf (fun _ => c) l = c * l.length
  | [] => by simp [sumOf]
  | a :: l => by simp only [sumOf, sumOf_const c l, List.length_cons, Nat.mul_succ]; omega
theorem getD_set {α : Type} {l : List α} {k : Nat} {x d : α} (h : k < l.length) : (l.set k x).getD k d = x := by simp [List.getD, h]
theorem getD_set_ne {α : Type} {l : List α} {k j : Nat} {x d : α} (h : j ≠ k) : (l.set k x).getD j d = l.getD j d := by simp [List.getD, List.getElem?_set, Ne.symm h]
theorem getD_mem {α : Type} {l : List α} {k : Nat} {d : α} (h : k < l.length) : l.getD k d ∈ l := by rw [getD_eq h]; exact List.getElem_mem h
theorem take_drop_set {α : Type} {a : List α} {d : α} {m k : Nat} {x : α} (h : k < a.length) (hm : m = a.length) (hx : x = a.getD k d) : (a.take k ++ (List.replicate m d).drop k).set k x = a.take (k + 1) ++ (List.replicate m d).drop (k + 1) := by
  subst hx
  exact set_take h hm
/-! ### The first that is so -/
def idxOf (p : Nat → Bool) (m : Nat) : Int := match (List.range m).find? p with
  | some k => (k : Int)
  | none => -1
theorem find_range_none {p : Nat → Bool} {m : Nat} (h : ∀ j, j < m → p j = false) : (List.range m).find? p = none := by
  rw [List.find?_eq_none]
  intro x hx
  rw [h x (List.mem_range.1 hx)]
  simp
theorem find_range_some {p : Nat → Bool} {m k : Nat} (hk : k < m) (hp : p k = true) (h : ∀ j, j < k → p j = false) : (List.range m).find? p = some k := by
  have e : m = k + (m - k) := by omega
  rw [e, List.range_add, List.find?_append, find_range_none h, Option.none_or]
  obtain ⟨r, hr⟩ : ∃ r, m - k = r + 1 := ⟨m - k - 1, by omega⟩
  rw [hr, List.range_succ_eq_map]
  simp [hp]
theorem idxOf_ge (p : Nat → Bool) (m : Nat) : decide (idxOf p m ≥ 0) = (List.range m).any p := by
  unfold idxOf
  cases h : (List.range m).find? p with
  | none =>
    rw [List.find?_eq_none] at h
    rw [show (List.range m).any p = false from by rw [List.any_eq_false]; exact h]
    rfl
  | some k =>
    have h1 := List.find?_some h
    rw [show (List.range m).any p = true from List.any_eq_true.2 ⟨k, List.mem_of_find?_eq_some h, h1⟩]
    exact decide_eq_true (by show (0 : Int) ≤ (k : Int); omega)
theorem idxOf_lt (p : Nat → Bool) (m : Nat) : decide (idxOf p m < 0) = !(List.range m).any p := by
  rw [← idxOf_ge]
  by_cases h : idxOf p m < 0
  · rw [decide_eq_true h, decide_eq_false (by omega)]; rfl
  · rw [decide_eq_false h, decide_eq_true (by omega)]; rfl
theorem find_range (p : Nat → Bool) : ∀ m, ((List.range m).find? p = none ∧ ∀ j, j < m → p j = false) ∨ ∃ k, (List.range m).find? p = some k ∧ k < m ∧ p k = true ∧ ∀ j, j < k → p j = false
  | 0 => .inl ⟨rfl, fun j hj => absurd hj (Nat.not_lt_zero _)⟩
  | m + 1 => by
    rcases find_range p m with ⟨h1, h2⟩ | ⟨k, h1, h2, h3, h4⟩
    · cases hp : p m with
      | true => exact .inr ⟨m, find_range_some (by omega) hp h2, by omega, hp, h2⟩
      | false =>
        have : ∀ j, j < m + 1 → p j = false := fun j hj => by
          by_cases e : j = m
          · rw [e]; exact hp
          · exact h2 j (by omega)
        exact .inl ⟨find_range_none this, this⟩
    · exact .inr ⟨k, find_range_some (by omega) h3 h4, by omega, h3, h4⟩
theorem idxOf_spec (p : Nat → Bool) (m : Nat) : (idxOf p m = -1 ∧ ∀ j, j < m → p j = false) ∨ ∃ k : Nat, idxOf p m = (k : Int) ∧ k < m ∧ p k = true ∧ ∀ j, j < k → p j = false := by
  unfold idxOf
  rcases find_range p m with ⟨h1, h2⟩ | ⟨k, h1, h2, h3, h4⟩
  · rw [h1]; exact .inl ⟨rfl, h2⟩
  · rw [h1]; exact .inr ⟨k, rfl, h2, h3, h4⟩
/-- A loop that looks at k = 0, 1, .. and leaves at the first that is so. -/
theorem loop_find {R : Type} {b : Int → (Int → Option R) → Option R} {len : Nat} {p : Nat → Bool} {yes : Nat → Option R} {no : Option R} (hlen : len ≤ 9223372036854775807)
    (hstep : ∀ (k : Nat) (J : Int → Option R), k < len → (∀ j, j < k → p j = false) → b (k : Int) J = bif p k then yes k else J ((k + 1 : Nat) : Int)) (hfin : ∀ J, (∀ j, j < len → p j = false) → b (len : Int) J = no) {n : Nat} (hn : len < n) :
    loopN b n (0 : Int) = match (List.range len).find? p with | some k => yes k | none => no := by
  refine loopN_ind (fun x => len - x.toNat) (fun x => ∃ k : Nat, k ≤ len ∧ x = (k : Int) ∧ ∀ j, j < k → p j = false) (fun x r => r = match (List.range len).find? p with | some k => yes k | none => no) ?_ n _ ⟨0, by omega, rfl, fun j hj => absurd hj (Nat.not_lt_zero _)⟩ (by simp; omega)
  rintro _ J ⟨k, hk, rfl, hb⟩ ih
  by_cases h : k < len
  · rw [hstep k J h hb]
    cases hp : p k with
    | false => exact ih _ ⟨k + 1, h, rfl, fun j hj => by
        by_cases e : j = k
        · rw [e]; exact hp
        · exact hb j (by omega)⟩ (by simp; omega)
    | true => rw [find_range_some h hp hb]; rfl
  · have : k = len := by omega
    subst this
    rw [hfin _ hb, find_range_none hb]
theorem loop_idx {b : Int → (Int → Option Int) → Option Int} {len : Nat} {p : Nat → Bool} (hlen : len ≤ 9223372036854775807)
    (hstep : ∀ (k : Nat) (J : Int → Option Int), k < len → (∀ j, j < k → p j = false) → b (k : Int) J = bif p k then some (k : Int) else J ((k + 1 : Nat) : Int)) (hfin : ∀ J, (∀ j, j < len → p j = false) → b (len : Int) J = some (-1)) {n : Nat} (hn : len < n) :
    loopN b n (0 : Int) = some (idxOf p len) := by
  rw [loop_find (yes := fun k => some (k : Int)) (no := some (-1)) hlen hstep hfin hn]
  unfold idxOf
  cases (List.range len).find? p <;> rfl
theorem byteAt_rng (s : ByteArray) (k : Nat) : 0 ≤ byteAt s k ∧ byteAt s k ≤ 255 := by
  unfold byteAt
  have := (s.data.getD k 0).toNat_lt
  omega
theorem range_any {α : Type} {l : List α} {d : α} {f : α → Bool} : (List.range l.length).any (fun k => f (l.getD k d)) = l.any f := by
  induction l with
  | nil => rfl
  | cons a l ih =>
    rw [List.length_cons, List.range_succ_eq_map, List.any_cons, List.any_map, List.any_cons, ← ih]
    rfl
theorem range_all {α : Type} {l : List α} {d : α} {f : α → Bool} : (List.range l.length).all (fun k => f (l.getD k d)) = l.all f := by
  induction l with
  | nil => rfl
  | cons a l ih =>
    rw [List.length_cons, List.range_succ_eq_map, List.all_cons, List.all_map, List.all_cons, ← ih]
    rfl
theorem all_congr_lt {p q : Nat → Bool} {m : Nat} (h : ∀ k, k < m → p k = q k) : (List.range m).all p = (List.range m).all q := by
  rw [Bool.eq_iff_iff, List.all_eq_true, List.all_eq_true]
  constructor
  · intro g x hx; rw [← h x (List.mem_range.1 hx)]; exact g x hx
  · intro g x hx; rw [h x (List.mem_range.1 hx)]; exact g x hx
theorem any_congr_lt {p q : Nat → Bool} {m : Nat} (h : ∀ k, k < m → p k = q k) : (List.range m).any p = (List.range m).any q := by
  rw [Bool.eq_iff_iff, List.any_eq_true, List.any_eq_true]
  constructor
  · rintro ⟨x, hx, g⟩; exact ⟨x, hx, by rw [← h x (List.mem_range.1 hx)]; exact g⟩
  · rintro ⟨x, hx, g⟩; exact ⟨x, hx, by rw [h x (List.mem_range.1 hx)]; exact g⟩
theorem guard_sz {w : Nat} {x : Option Bool} (h : w ≤ 1048576 → x = some true) : (bif decide ((if (w : Int) ≤ 1048576 then 1048576 - (w : Int) else -1) < 0) then some true else x) = some true := by
  by_cases c : (w : Int) ≤ 1048576
  · rw [if_pos c, decide_eq_false (by omega), cond_false]
    exact h (by omega)
  · rw [if_neg c]
    rfl
end Go.Sm
end

section
set_option linter.unusedSimpArgs false
set_option linter.deprecated false
set_option linter.unusedSectionVars false
set_option linter.unusedVariables false
set_option linter.unusedSimpArgs false
namespace Go.Sm
attribute [local irreducible] bd chk ix loopN
theorem in_impl4 (n : Nat) (x a b : Int) : impl_in n x a b = some (decide (a ≤ x ∧ x ≤ b)) := by
  unfold impl_in
  by_cases h0 : a ≤ x <;> by_cases h1 : x ≤ b <;> simp [h0, h1]
/-! ### Legs in order -/
def lastS (l : List SLeg) (s : Int) : Option SLeg := l.reverse.find? fun p => decide (p.Service = s)
theorem lastS_succ {l : List SLeg} {k : Nat} (h : k < l.length) (s : Int) : lastS (l.take (k + 1)) s = if (l.getD k dSLeg).Service = s then some (l.getD k dSLeg) else lastS (l.take k) s := by
  unfold lastS
  rw [take_succ_getD (d := dSLeg) h, List.reverse_append, List.reverse_singleton, List.singleton_append, List.find?_cons]
  by_cases e : (l.getD k dSLeg).Service = s <;> simp only [e, decide_true, decide_false, if_true, if_false]
def legBase (x : SLeg) : Bool :=
  decide (1 ≤ x.Service ∧ x.Service ≤ 100) && (decide (0 ≤ x.From ∧ x.From ≤ 19) && (decide (0 ≤ x.To ∧ x.To ≤ 19) && (!decide (x.From = x.To) && (decide (0 ≤ x.Leaves ∧ x.Leaves ≤ 100000000) &&
    (decide (0 ≤ x.Comes ∧ x.Comes ≤ 100000000) && (!decide (x.Leaves ≥ x.Comes) && decide (0 ≤ x.Room ∧ x.Room ≤ 1000000)))))))
def legJoin (q : Option SLeg) (x : SLeg) : Bool := match q with
  | none => true
  | some p => decide (p.To = x.From) && !decide (p.Comes > x.Leaves)
def legOk (l : List SLeg) (k : Nat) : Bool := legBase (l.getD k dSLeg) && legJoin (lastS (l.take k) (l.getD k dSLeg).Service) (l.getD k dSLeg)
def legsAll (l : List SLeg) : Bool := (List.range l.length).all (legOk l)
def legsOk (l : List SLeg) : Bool := decide (l.length ≤ 60) && legsAll l
theorem legs_impl {n : Nat} (l : List SLeg) (hl : l.length ≤ 1048576) (hn : 1000000000 < n) : impl_LegsOk n l = some (legsOk l) := by
  unfold impl_LegsOk
  by_cases h6 : l.length ≤ 60
  · have e : decide ((l.length : Int) > 60) = false := decide_eq_false (by omega)
    rw [e, cond_false]
    have := loop_allS (S := List (Int × SLeg)) (X := Int × List (Int × SLeg)) (enc := fun k s => (k, s)) (b := fun x J' => impl_LegsOk_L5 n (some true) (fun t81 => some t81) (fun t82 t83 => J' (t82, t83)) l (l.length : Int) x.1 x.2) (len := l.length) (p := legOk l)
      (I := fun k s => ∀ q, mgetI s q = lastS (l.take k) q) (no := some false) (yes := some true) (fun k s J h hi _ => ?_) (fun s J _ _ => ?_) (n := n) (by omega) (s0 := []) (fun q => by simp [lastS, mgetI])
    · refine this.trans ?_
      rw [bif_tf, legsOk, decide_eq_true h6, Bool.true_and, legsAll]
    · refine ⟨mputI s (l.getD k dSLeg).Service (l.getD k dSLeg), fun _ q => ?_, ?_⟩
      · rw [mgetI_mputI, lastS_succ h, hi q]
        by_cases hq : q = (l.getD k dSLeg).Service
        · simp only [hq, if_true]
        · simp only [hq, Ne.symm hq, if_false]
      · unfold impl_LegsOk_L5 impl_LegsOk_k1 impl_LegsOk_k0 impl_linePort impl_minuteOk
        rw [legOk]
        have hm := hi (l.getD k dSLeg).Service
        cases hq : lastS (l.take k) (l.getD k dSLeg).Service with
        | none =>
          rw [hq] at hm
          simp only [Int.ofNat_lt, h, decide_true, cond_true, ix_nat h, bd_eq, Int.toNat_natCast, in_impl4, Option.bind_some, w64_succ (show k < 9223372036854775807 by omega), hm, Option.isSome_none, cond_false, legJoin, legBase, bif_not, bif_and', bif_or', bif_and2, bif_or2, Bool.not_not, Bool.and_assoc, Bool.and_true, Bool.true_and, Bool.false_and, Bool.not_false, Bool.not_true]
        | some p =>
          rw [hq] at hm
          simp only [Int.ofNat_lt, h, decide_true, cond_true, ix_nat h, bd_eq, Int.toNat_natCast, in_impl4, Option.bind_some, w64_succ (show k < 9223372036854775807 by omega), hm, Option.isSome_some, Option.getD_some, legJoin, legBase, bif_not, bif_and', bif_or', bif_and2, bif_or2, Bool.not_not, Bool.and_assoc, Bool.and_true, Bool.true_and, Bool.false_and, Bool.not_false, Bool.not_true]
    · unfold impl_LegsOk_L5
      simp
  · have e : decide ((l.length : Int) > 60) = true := decide_eq_true (by omega)
    rw [e, cond_true, legsOk, decide_eq_false h6]
    rfl
/-! ### A way -/
/-! ### Loops that never leave early, told by a fold -/
def foldN {S : Type} (f : Nat → S → S) : Nat → S → S
  | 0, s => s
  | k + 1, s => f k (foldN f k s)
theorem foldN_ind {S : Type} {f : Nat → S → S} {s0 : S} {len : Nat} (I : Nat → S → Prop) (h0 : I 0 s0) (h : ∀ k s, k < len → I k s → I (k + 1) (f k s)) : ∀ k, k ≤ len → I k (foldN f k s0)
  | 0, _ => h0
  | k + 1, hk => h k _ (by omega) (foldN_ind I h0 h k (by omega))
theorem loop_fold {S R X : Type} {enc : Int → S → X} {b : X → (X → Option R) → Option R} {len : Nat} {f : Nat → S → S} {fin : S → Option R} {s0 : S} (I : Nat → S → Prop)
    (hstep : ∀ (k : Nat) (s : S) (J : X → Option R), k < len → I k s → I (k + 1) (f k s) ∧ b (enc (k : Int) s) J = J (enc ((k + 1 : Nat) : Int) (f k s))) (hfin : ∀ s J, I len s → b (enc (len : Int) s) J = fin s)
    {n : Nat} (hn : len < n) (h0 : I 0 s0) : loopN b n (enc (0 : Int) s0) = fin (foldN f len s0) :=
  loop_runS (I := fun k s => I k s ∧ s = foldN f k s0) (Q := fun r => r = fin (foldN f len s0))
    (fun k s J hk hi => ⟨f k s, ⟨(hstep k s J hk hi.1).1, by rw [hi.2]; rfl⟩, (hstep k s J hk hi.1).2⟩) (fun s J hi => by rw [hfin s J hi.1, hi.2]) hn ⟨h0, rfl⟩
/-! ### Legs that follow -/
def lgo (ch : Int) (p x : SLeg) : Bool := decide (p.To = x.From) && decide (p.Comes + (if p.Service = x.Service then 0 else ch) ≤ x.Leaves)
def lst (fr at_ : Int) (x : SLeg) : Bool := decide (x.From = fr) && decide (at_ ≤ x.Leaves)
structure LegB (x : SLeg) : Prop where
  s : 1 ≤ x.Service ∧ x.Service ≤ 100
  f : 0 ≤ x.From ∧ x.From ≤ 19
  t : 0 ≤ x.To ∧ x.To ≤ 19
  ne : x.From ≠ x.To
  l : 0 ≤ x.Leaves ∧ x.Leaves ≤ 100000000
  c : 0 ≤ x.Comes ∧ x.Comes ≤ 100000000
  lt : x.Leaves < x.Comes
theorem legB_of {x : SLeg} (h : legBase x = true) : LegB x := by
  simp only [legBase, Bool.and_eq_true, decide_eq_true_eq, Bool.not_eq_true', decide_eq_false_iff_not] at h
  obtain ⟨h1, h2, h3, h4, h5, h6, h7, h8⟩ := h
  exact ⟨h1, h2, h3, h4, h5, h6, by omega⟩
theorem legs_at {l : List SLeg} (h : legsOk l = true) : l.length ≤ 60 ∧ ∀ k, k < l.length → LegB (l.getD k dSLeg) := by
  simp only [legsOk, Bool.and_eq_true, decide_eq_true_eq, legsAll] at h
  refine ⟨h.1, fun k hk => ?_⟩
  have := List.all_eq_true.1 h.2 k (List.mem_range.2 hk)
  simp only [legOk, Bool.and_eq_true] at this
  exact legB_of this.1
theorem changes_eq (n : Nat) {p x : SLeg} {ch : Int} (hp : LegB p) (hc : 0 ≤ ch ∧ ch ≤ 10000) : impl_changes n p x ch = some (lgo ch p x) := by
  have h1 := hp.c
  have e1 : w64 (p.Comes + 0) = p.Comes := by rw [w64_id (by omega) (by omega)]; omega
  have e2 : w64 (p.Comes + ch) = p.Comes + ch := w64_id (by omega) (by omega)
  unfold impl_changes lgo
  simp only [bd_eq, e1, e2]
  by_cases hs : p.Service = x.Service <;> by_cases ht : p.To = x.From <;> simp [hs, ht]
section
variable (l : List SLeg) (fr at_ ch : Int)
/-- What can be taken at all. -/
inductive Rch : Nat → Prop
  | start {j : Nat} : j < l.length → lst fr at_ (l.getD j dSLeg) = true → Rch j
  | step {i j : Nat} : Rch i → j < l.length → lgo ch (l.getD i dSLeg) (l.getD j dSLeg) = true → Rch j
end
theorem Rch.lt {l : List SLeg} {fr at_ ch : Int} {j : Nat} (h : Rch l fr at_ ch j) : j < l.length := by cases h <;> assumption
theorem Rch.late {l : List SLeg} {fr at_ ch : Int} (hl : ∀ k, k < l.length → LegB (l.getD k dSLeg)) (hc : 0 ≤ ch) {j : Nat} (h : Rch l fr at_ ch j) : at_ ≤ (l.getD j dSLeg).Leaves := by
  induction h with
  | start h1 h2 => simp only [lst, Bool.and_eq_true, decide_eq_true_eq] at h2; exact h2.2
  | @step i j h1 h2 h3 ih =>
    have := (hl i h1.lt).lt
    simp only [lgo, Bool.and_eq_true, decide_eq_true_eq] at h3
    have := h3.2
    split at this <;> omega
theorem lgo_lt {l : List SLeg} {ch : Int} (hl : ∀ k, k < l.length → LegB (l.getD k dSLeg)) (hc : 0 ≤ ch) {i j : Nat} (hi : i < l.length) (h : lgo ch (l.getD i dSLeg) (l.getD j dSLeg) = true) : (l.getD i dSLeg).Leaves < (l.getD j dSLeg).Leaves := by
  have := (hl i hi).lt
  simp only [lgo, Bool.and_eq_true, decide_eq_true_eq] at h
  have := h.2
  split at this <;> omega
/-! ### One pass over the legs -/
def stepOk (l : List SLeg) (fr at_ ch : Int) (can : List Bool) (j : Nat) : Bool := lst fr at_ (l.getD j dSLeg) || (List.range l.length).any fun k => can.getD k false && lgo ch (l.getD k dSLeg) (l.getD j dSLeg)
def passStep (l : List SLeg) (fr at_ ch : Int) (i : Nat) (s : Bool × List Bool) : Bool × List Bool :=
  bif s.2.getD i false then s else bif stepOk l fr at_ ch s.2 i then (true, s.2.set i true) else s
theorem count_set {c : List Bool} {i : Nat} (hi : i < c.length) (h : c.getD i false = false) : (c.set i true).countP id = c.countP id + 1 := by
  rw [getD_eq hi] at h
  rw [List.countP_set hi]
  simp [h]
structure PassI (l : List SLeg) (fr at_ ch : Int) (can0 : List Bool) (k : Nat) (s : Bool × List Bool) : Prop where
  len : s.2.length = l.length
  sound : ∀ i, s.2.getD i false = true → Rch l fr at_ ch i
  no : s.1 = false → s.2 = can0 ∧ ∀ i, i < k → can0.getD i false = true ∨ stepOk l fr at_ ch can0 i = false
  cnt : s.1 = true → can0.countP id < s.2.countP id
  le : can0.countP id ≤ s.2.countP id
theorem stepOk_rch {l : List SLeg} {fr at_ ch : Int} {can : List Bool} (hs : ∀ i, can.getD i false = true → Rch l fr at_ ch i) {j : Nat} (hj : j < l.length) (h : stepOk l fr at_ ch can j = true) : Rch l fr at_ ch j := by
  simp only [stepOk, Bool.or_eq_true, List.any_eq_true, Bool.and_eq_true] at h
  rcases h with h | ⟨k, _, h1, h2⟩
  · exact .start hj h
  · exact .step (hs k h1) hj h2
theorem pass_ok {l : List SLeg} {fr at_ ch : Int} {can0 : List Bool} (hlen : can0.length = l.length) (hs : ∀ i, can0.getD i false = true → Rch l fr at_ ch i) : ∀ k, k ≤ l.length → PassI l fr at_ ch can0 k (foldN (passStep l fr at_ ch) k (false, can0)) :=
  foldN_ind _ ⟨hlen, hs, fun _ => ⟨rfl, fun i hi => absurd hi (Nat.not_lt_zero _)⟩, fun h => (by cases h), Nat.le_refl _⟩ fun k s hk hi => by
    unfold passStep
    cases h1 : s.2.getD k false with
    | true =>
      simp only [cond_true]
      refine ⟨hi.len, hi.sound, fun h => ⟨(hi.no h).1, fun i hik => ?_⟩, hi.cnt, hi.le⟩
      by_cases e : i = k
      · subst e; left; rw [← (hi.no h).1]; exact h1
      · exact (hi.no h).2 i (by omega)
    | false =>
      simp only [cond_false]
      cases h2 : stepOk l fr at_ ch s.2 k with
      | false =>
        simp only [cond_false]
        refine ⟨hi.len, hi.sound, fun h => ⟨(hi.no h).1, fun i hik => ?_⟩, hi.cnt, hi.le⟩
        by_cases e : i = k
        · subst e; right; rw [← (hi.no h).1]; exact h2
        · exact (hi.no h).2 i (by omega)
      | true =>
        simp only [cond_true]
        have hc := count_set (by rw [hi.len]; exact hk) h1
        refine ⟨by simp [hi.len], fun i h => ?_, fun h => (by cases h), fun _ => (by have := hi.le; show _ < (s.2.set k true).countP id; omega), by have := hi.le; show _ ≤ (s.2.set k true).countP id; omega⟩
        by_cases e : i = k
        · subst e; exact stepOk_rch hi.sound hk h2
        · rw [getD_set_ne e] at h; exact hi.sound i h
/-! ### The first function's reach -/
theorem range_any_succ {p : Nat → Bool} (len k : Nat) (h : k < len) : ((List.range' k (len - k)).any p) = (p k || (List.range' (k + 1) (len - (k + 1))).any p) := by
  rw [show len - k = (len - (k + 1)) + 1 from by omega, List.range'_succ, List.any_cons]
end Go.Sm
end

section
set_option linter.unusedSimpArgs false
set_option linter.deprecated false
set_option linter.unusedSectionVars false
set_option linter.unusedVariables false
set_option linter.unusedSimpArgs false
namespace Go.Sm
attribute [local irreducible] bd chk ix loopN
/-- What the first function's reach has told. -/
structure CanIs (l : List SLeg) (fr at_ ch : Int) (can : List Bool) : Prop where
  len : can.length = l.length
  is : ∀ i, can.getD i false = true ↔ Rch l fr at_ ch i
theorem closed_rch {l : List SLeg} {fr at_ ch : Int} {can : List Bool} (h : ∀ i, i < l.length → can.getD i false = true ∨ stepOk l fr at_ ch can i = false) {i : Nat} (hr : Rch l fr at_ ch i) : can.getD i false = true := by
  induction hr with
  | @start j h1 h2 =>
    rcases h j h1 with h | h
    · exact h
    · unfold stepOk at h; rw [h2, Bool.true_or] at h; cases h
  | @step i j h1 h2 h3 ih =>
    rcases h j h2 with h | h
    · exact h
    · have : stepOk l fr at_ ch can j = true := by
        simp only [stepOk, Bool.or_eq_true, List.any_eq_true, Bool.and_eq_true]
        exact .inr ⟨i, List.mem_range.2 h1.lt, ih, h3⟩
      rw [this] at h; cases h
theorem countP_le (c : List Bool) : c.countP id ≤ c.length := List.countP_le_length
/-- The soonest that a set of legs comes to a port. -/
def BestOn (l : List SLeg) (fr at_ ch : Int) (S : Nat → Prop) (p v : Int) : Prop :=
  (v = -1 ∧ ∀ i, S i → Rch l fr at_ ch i → (l.getD i dSLeg).To ≠ p) ∨ (∃ i, S i ∧ Rch l fr at_ ch i ∧ (l.getD i dSLeg).To = p ∧ v = (l.getD i dSLeg).Comes ∧ ∀ j, S j → Rch l fr at_ ch j → (l.getD j dSLeg).To = p → v ≤ (l.getD j dSLeg).Comes)
theorem BestOn.uniq {l : List SLeg} {fr at_ ch : Int} (hl : ∀ k, k < l.length → LegB (l.getD k dSLeg)) {S : Nat → Prop} {p v v' : Int} (h : BestOn l fr at_ ch S p v) (h' : BestOn l fr at_ ch S p v') : v = v' := by
  rcases h with ⟨rfl, h1⟩ | ⟨i, a1, a2, a3, a4, a5⟩ <;> rcases h' with ⟨rfl, h2⟩ | ⟨j, b1, b2, b3, b4, b5⟩
  · rfl
  · exact absurd b3 (h1 j b1 b2)
  · exact absurd a3 (h2 i a1 a2)
  · have h1 := a5 j b1 b2 b3
    have h2 := b5 i a1 a2 a3
    omega
theorem BestOn.congr {l : List SLeg} {fr at_ ch : Int} {S S' : Nat → Prop} (hS : ∀ i, S i ↔ S' i) {p v : Int} (h : BestOn l fr at_ ch S p v) : BestOn l fr at_ ch S' p v := by
  rw [show S = S' from funext fun i => propext (hS i)] at h; exact h
open Classical in
/-- One leg more. -/
theorem BestOn.more {l : List SLeg} {fr at_ ch : Int} (hl : ∀ k, k < l.length → LegB (l.getD k dSLeg)) {S : Nat → Prop} {p v : Int} (h : BestOn l fr at_ ch S p v) (k : Nat) :
    BestOn l fr at_ ch (fun i => S i ∨ i = k) p (if Rch l fr at_ ch k ∧ (l.getD k dSLeg).To = p ∧ (v < 0 ∨ (l.getD k dSLeg).Comes < v) then (l.getD k dSLeg).Comes else v) := by
  by_cases hk : Rch l fr at_ ch k ∧ (l.getD k dSLeg).To = p
  · by_cases hv : v < 0 ∨ (l.getD k dSLeg).Comes < v
    · rw [if_pos ⟨hk.1, hk.2, hv⟩]
      refine .inr ⟨k, .inr rfl, hk.1, hk.2, rfl, fun j hj hr ht => ?_⟩
      rcases hj with hj | rfl
      · rcases h with ⟨h0, h1⟩ | ⟨i, a1, a2, a3, a4, a5⟩
        · exact absurd ht (h1 j hj hr)
        · have := a5 j hj hr ht
          have := (hl i a2.lt).c
          omega
      · exact Int.le_refl _
    · rw [if_neg (fun h => hv h.2.2)]
      rcases h with ⟨h0, h1⟩ | ⟨i, a1, a2, a3, a4, a5⟩
      · omega
      · refine .inr ⟨i, .inl a1, a2, a3, a4, fun j hj hr ht => ?_⟩
        rcases hj with hj | rfl
        · exact a5 j hj hr ht
        · omega
  · rw [if_neg (fun h => hk ⟨h.1, h.2.1⟩)]
    rcases h with ⟨h0, h1⟩ | ⟨i, a1, a2, a3, a4, a5⟩
    · refine .inl ⟨h0, fun j hj hr => ?_⟩
      rcases hj with hj | rfl
      · exact h1 j hj hr
      · exact fun ht => hk ⟨hr, ht⟩
    · refine .inr ⟨i, .inl a1, a2, a3, a4, fun j hj hr ht => ?_⟩
      rcases hj with hj | rfl
      · exact a5 j hj hr ht
      · exact absurd ⟨hr, ht⟩ hk
/-- What both tell: the soonest at each port. -/
structure EarlIs (l : List SLeg) (fr at_ ch : Int) (e : List Int) : Prop where
  len : e.length = 20
  at0 : e.getD fr.toNat 0 = at_
  best : ∀ p : Nat, p < 20 → (p : Int) ≠ fr → BestOn l fr at_ ch (fun i => i < l.length) p (e.getD p 0)
theorem EarlIs.uniq {l : List SLeg} {fr at_ ch : Int} (hl : ∀ k, k < l.length → LegB (l.getD k dSLeg)) (hf : 0 ≤ fr) {e e' : List Int} (h : EarlIs l fr at_ ch e) (h' : EarlIs l fr at_ ch e') : e = e' := by
  apply List.ext_getElem (by rw [h.len, h'.len])
  intro p h1 h2
  rw [← getD_eq (d := 0) h1, ← getD_eq (d := 0) h2]
  by_cases hp : (p : Int) = fr
  · have e1 := h.at0
    have e2 := h'.at0
    rw [← hp, Int.toNat_natCast] at e1 e2
    rw [e1, e2]
  · exact (h.best p (by rw [← h.len]; exact h1) hp).uniq hl (h'.best p (by rw [← h.len]; exact h1) hp)
open Classical in
noncomputable def bestStep (l : List SLeg) (fr at_ ch : Int) (p : Nat) (i : Nat) (o : List Int) : List Int :=
  if Rch l fr at_ ch i ∧ (l.getD i dSLeg).To = (p : Int) ∧ (o.getD p 0 < 0 ∨ (l.getD i dSLeg).Comes < o.getD p 0) then o.set p (l.getD i dSLeg).Comes else o
theorem bestStep_len (l : List SLeg) (fr at_ ch : Int) (p i : Nat) (o : List Int) : (bestStep l fr at_ ch p i o).length = o.length := by unfold bestStep; split <;> simp
theorem bestStep_ne (l : List SLeg) (fr at_ ch : Int) (p i : Nat) (o : List Int) {q : Nat} (hq : q ≠ p) : (bestStep l fr at_ ch p i o).getD q 0 = o.getD q 0 := by
  unfold bestStep; split
  · exact getD_set_ne hq
  · rfl
open Classical in
theorem bestStep_at (l : List SLeg) (fr at_ ch : Int) (p i : Nat) {o : List Int} (hp : p < o.length) : (bestStep l fr at_ ch p i o).getD p 0 = if Rch l fr at_ ch i ∧ (l.getD i dSLeg).To = (p : Int) ∧ (o.getD p 0 < 0 ∨ (l.getD i dSLeg).Comes < o.getD p 0) then (l.getD i dSLeg).Comes else o.getD p 0 := by
  unfold bestStep; split
  · exact getD_set hp
  · rfl
end Go.Sm
end

section
set_option linter.unusedSimpArgs false
set_option linter.deprecated false
set_option linter.unusedSectionVars false
set_option linter.unusedVariables false
set_option linter.unusedSimpArgs false
namespace Go.Sm
attribute [local irreducible] bd chk ix loopN
theorem best_fold {l : List SLeg} {fr at_ ch : Int} (hl : ∀ k, k < l.length → LegB (l.getD k dSLeg)) {p : Nat} {o : List Int} (hp : p < o.length) (h0 : o.getD p 0 = -1) :
    (foldN (bestStep l fr at_ ch p) l.length o).length = o.length ∧ BestOn l fr at_ ch (fun i => i < l.length) p ((foldN (bestStep l fr at_ ch p) l.length o).getD p 0) ∧ ∀ q, q ≠ p → (foldN (bestStep l fr at_ ch p) l.length o).getD q 0 = o.getD q 0 := by
  refine foldN_ind (f := bestStep l fr at_ ch p) (len := l.length) (fun k s => s.length = o.length ∧ BestOn l fr at_ ch (fun i => i < k) p (s.getD p 0) ∧ ∀ q, q ≠ p → s.getD q 0 = o.getD q 0) ⟨rfl, .inl ⟨h0, fun i hi => absurd hi (Nat.not_lt_zero _)⟩, fun _ _ => rfl⟩ (fun k s hk hi => ⟨by rw [bestStep_len]; exact hi.1, ?_, fun q hq => by rw [bestStep_ne _ _ _ _ _ _ _ hq]; exact hi.2.2 q hq⟩) l.length (Nat.le_refl _)
  rw [bestStep_at _ _ _ _ _ _ (by rw [hi.1]; exact hp)]
  exact (hi.2.1.more hl k).congr fun i => by omega
/-- Are the arguments right? -/
def earlOk (l : List SLeg) (fr at_ ch : Int) : Bool := legsOk l && (decide (0 ≤ fr ∧ fr ≤ 19) && (decide (0 ≤ at_ ∧ at_ ≤ 100000000) && decide (0 ≤ ch ∧ ch ≤ 10000)))
theorem earlOk_is {l : List SLeg} {fr at_ ch : Int} (h : earlOk l fr at_ ch = true) : legsOk l = true ∧ (0 ≤ fr ∧ fr ≤ 19) ∧ (0 ≤ at_ ∧ at_ ≤ 100000000) ∧ (0 ≤ ch ∧ ch ≤ 10000) := by
  simpa [earlOk, Bool.and_eq_true, decide_eq_true_eq] using h
end Go.Sm
end

section
set_option linter.unusedSimpArgs false
set_option linter.deprecated false
set_option linter.unusedSectionVars false
set_option linter.unusedVariables false
set_option linter.unusedSimpArgs false
namespace Go.Sm
attribute [local irreducible] bd chk ix loopN
/-! ### The second function: the legs by their leaving -/
theorem port_impl (n : Nat) (x : Int) : impl_linePort n x = some (decide (0 ≤ x ∧ x ≤ 19)) := by unfold impl_linePort; rw [in_impl4]; rfl
theorem minute_impl (n : Nat) (x : Int) : impl_minuteOk n x = some (decide (0 ≤ x ∧ x ≤ 100000000)) := by unfold impl_minuteOk; rw [in_impl4]; rfl
theorem right_impl {n : Nat} (l : List SLeg) (fr at_ ch : Int) (hl : l.length ≤ 1048576) (hn : 1000000000 < n) : impl_lineRight n l fr at_ ch = some (earlOk l fr at_ ch) := by
  unfold impl_lineRight earlOk
  rw [legs_impl l hl hn, port_impl, minute_impl, in_impl4]
  generalize decide (0 ≤ fr ∧ fr ≤ 19) = b2
  generalize decide (0 ≤ at_ ∧ at_ ≤ 100000000) = b3
  generalize decide (0 ≤ ch ∧ ch ≤ 10000) = b4
  cases legsOk l <;> cases b2 <;> cases b3 <;> cases b4 <;> rfl
def leav (l : List SLeg) (a : Int) : Int := (l.getD a.toNat dSLeg).Leaves
def cmpL (l : List SLeg) (a b : Int) : Int := if leav l a < leav l b then -1 else if leav l a > leav l b then 1 else 0
theorem cmp_int (n : Nat) (x y : Int) : cmp_Compare_int n x y = some (if x < y then -1 else if x > y then 1 else 0) := by
  unfold cmp_Compare_int cmp_isNaN_int
  simp only [decide_true, Bool.not_true, Option.bind_some, cond_false]
  by_cases h : x < y
  · simp [h]
  · by_cases h2 : x > y <;> simp [h, h2]
theorem cmp_legs (n : Nat) {l : List SLeg} {a b : Int} (ha : 0 ≤ a ∧ a < (l.length : Int)) (hb : 0 ≤ b ∧ b < (l.length : Int)) : impl_Earliest_1 n a b l = some (cmpL l a b) := by
  unfold impl_Earliest_1
  rw [ix_of ha.1 ha.2, bd_eq, ix_of hb.1 hb.2, bd_eq, cmp_int]
  rfl
def idxs (l : List SLeg) : List Int := (List.range l.length).map Int.ofNat
theorem idxs_mem {l : List SLeg} {x : Int} : x ∈ idxs l ↔ 0 ≤ x ∧ x < (l.length : Int) := by
  simp only [idxs, List.mem_map, List.mem_range]
  constructor
  · rintro ⟨k, hk, rfl⟩
    have : Int.ofNat k = (k : Int) := rfl
    omega
  · rintro ⟨h1, h2⟩
    exact ⟨x.toNat, by omega, by show ((x.toNat : Nat) : Int) = x; omega⟩
theorem sort_legs (n : Nat) {l : List SLeg} (hl : l.length ≤ 60) : ∃ o, slices_SortFunc_int_int__impl_Earliest_1 n (idxs l) l = some o ∧ o.Perm (idxs l) ∧ o.Pairwise fun x y => ¬ leav l y < leav l x := by
  unfold slices_SortFunc_int_int__impl_Earliest_1
  obtain ⟨o, h1, h2, h3⟩ := sortL_ok (d := (0 : Int)) (cmp := fun a b => impl_Earliest_1 n a b l) (cf := cmpL l) (l := idxs l) (fun x hx y hy => cmp_legs n (idxs_mem.1 hx) (idxs_mem.1 hy)) (fun x _ => by unfold cmpL; split <;> omega)
    (fun x _ y _ z _ h1 h2 => by unfold cmpL at *; split at h1 <;> split at h2 <;> split <;> omega) (fun x _ y _ z _ h1 h2 => by unfold cmpL at *; split at h1 <;> split at h2 <;> split <;> omega) (by simp [idxs]; omega)
  refine ⟨o, h1, h2, h3.imp fun {x y} h hlt => h ?_⟩
  unfold cmpL
  rw [if_pos hlt]
  omega
/-- What has been seen after t turns. -/
structure TakI (l : List SLeg) (fr at_ ch : Int) (o : List Int) (t : Nat) (s : List Int × List Bool) : Prop where
  tl : s.2.length = l.length
  tk : ∀ i : Nat, s.2.getD i false = true ↔ ((i : Int) ∈ o.take t ∧ Rch l fr at_ ch i)
  ol : s.1.length = 20
  oa : s.1.getD fr.toNat 0 = at_
  best : ∀ p : Nat, p < 20 → (p : Int) ≠ fr → BestOn l fr at_ ch (fun i => (i : Int) ∈ o.take t) p (s.1.getD p 0)
theorem take_in {R : Type} {n : Nat} {Q : Option R → Prop} (kx : List Bool → Option R) {l : List SLeg} (hl : ∀ k, k < l.length → LegB (l.getD k dSLeg)) (hlen : l.length ≤ 60) {ch : Int} (hc : 0 ≤ ch ∧ ch ≤ 10000) (fr at_ t1 t2 : Int) (out : List Int) (o : List Int) {j : Nat} (hj : j < l.length) {tk : List Bool} (ht : tk.length = l.length)
    (hq : ∀ s : List Bool, s.length = l.length → (∀ i, i ≠ j → s.getD i false = tk.getD i false) → (s.getD j false = true ↔ tk.getD j false = true ∨ ∃ i, i < l.length ∧ i ≠ j ∧ tk.getD i false = true ∧ lgo ch (l.getD i dSLeg) (l.getD j dSLeg) = true) → Q (kx s)) (hn : 1000000000 < n) :
    Q (loopN (fun (x : Int × List Bool) J' => impl_Earliest_L24 n kx (fun t111 taken112 => J' (t111, taken112)) fr at_ ch (j : Int) t1 t2 (l.length : Int) x.1 l out x.2 (l.getD j dSLeg) o) n ((0 : Int), tk)) := by
  refine loop_runS (enc := fun i (s : List Bool) => (i, s)) (I := fun k s => s.length = l.length ∧ (∀ i, i ≠ j → s.getD i false = tk.getD i false) ∧ (s.getD j false = true ↔ tk.getD j false = true ∨ ∃ i, i < k ∧ i ≠ j ∧ tk.getD i false = true ∧ lgo ch (l.getD i dSLeg) (l.getD j dSLeg) = true)) (len := l.length)
    (fun k s J hk hi => ?_) (fun s J hi => ?_) (by omega) ⟨ht, fun _ _ => rfl, ⟨.inl, fun h => h.elim id fun ⟨i, hi, _⟩ => absurd hi (Nat.not_lt_zero _)⟩⟩
  · have hjs : j < s.length := by rw [hi.1]; exact hj
    have hks : k < s.length := by rw [hi.1]; exact hk
    have e : w64 ((k : Int) + 1) = ((k + 1 : Nat) : Int) := w64_succ (by omega)
    obtain ⟨h1, h2, h3⟩ := hi
    have hset : ∀ b : Bool, (b = true ↔ tk.getD j false = true ∨ ∃ i, i < k + 1 ∧ i ≠ j ∧ tk.getD i false = true ∧ lgo ch (l.getD i dSLeg) (l.getD j dSLeg) = true) → (s.set j b).length = l.length ∧ (∀ i, i ≠ j → (s.set j b).getD i false = tk.getD i false) ∧ ((s.set j b).getD j false = true ↔ tk.getD j false = true ∨ ∃ i, i < k + 1 ∧ i ≠ j ∧ tk.getD i false = true ∧ lgo ch (l.getD i dSLeg) (l.getD j dSLeg) = true) := fun b hb =>
      ⟨by simp [h1], fun i hij => by rw [getD_set_ne hij]; exact h2 i hij, by rw [getD_set hjs]; exact hb⟩
    show ∃ s', _ ∧ impl_Earliest_L24 n kx (fun t111 taken112 => J (t111, taken112)) fr at_ ch (j : Int) t1 t2 (l.length : Int) (k : Int) l out s (l.getD j dSLeg) o = J (((k + 1 : Nat) : Int), s')
    unfold impl_Earliest_L24 impl_Earliest_k0
    simp only [Int.ofNat_lt, hk, decide_true, cond_true, ix_nat hjs, Int.toNat_natCast, chk_dec hjs, ix_nat hks, chk_dec hks, e, bd_eq, ix_nat hk]
    cases hsj : s.getD j false with
    | true =>
      refine ⟨s.set j true, hset true ⟨fun _ => ?_, fun _ => rfl⟩, rfl⟩
      exact (h3.1 hsj).imp id fun ⟨i, hik, h⟩ => ⟨i, by omega, h⟩
    | false =>
      have hno : ¬ (tk.getD j false = true ∨ ∃ i, i < k ∧ i ≠ j ∧ tk.getD i false = true ∧ lgo ch (l.getD i dSLeg) (l.getD j dSLeg) = true) := fun h => by rw [h3.2 h] at hsj; cases hsj
      cases hsk : s.getD k false with
      | false =>
        refine ⟨s.set j false, hset false ⟨fun h => (by cases h), fun h => ?_⟩, rfl⟩
        exfalso
        rcases h with h | ⟨i, hik, hij, hti, hg⟩
        · exact hno (.inl h)
        · by_cases eik : i = k
          · subst eik; rw [h2 _ hij, hti] at hsk; cases hsk
          · exact hno (.inr ⟨i, by omega, hij, hti, hg⟩)
      | true =>
        have hkj : k ≠ j := fun h => by subst h; rw [hsj] at hsk; cases hsk
        rw [changes_eq n (hl k hk) hc]
        simp only [cond_false, cond_true, Option.bind_some]
        refine ⟨s.set j (lgo ch (l.getD k dSLeg) (l.getD j dSLeg)), hset _ ⟨fun h => .inr ⟨k, by omega, hkj, by rw [← h2 k hkj]; exact hsk, h⟩, fun h => ?_⟩, rfl⟩
        rcases h with h | ⟨i, hik, hij, hti, hg⟩
        · exact absurd (.inl h) hno
        · by_cases eik : i = k
          · subst eik; exact hg
          · exact absurd (.inr ⟨i, by omega, hij, hti, hg⟩) hno
  · show Q (impl_Earliest_L24 n kx (fun t111 taken112 => J (t111, taken112)) fr at_ ch (j : Int) t1 t2 (l.length : Int) (l.length : Int) l out s (l.getD j dSLeg) o)
    unfold impl_Earliest_L24
    rw [decide_eq_false (by omega), cond_false]
    exact hq s hi.1 hi.2.1 hi.2.2
end Go.Sm
end

section
set_option linter.unusedSimpArgs false
set_option linter.deprecated false
set_option linter.unusedSectionVars false
set_option linter.unusedVariables false
set_option linter.unusedSimpArgs false
namespace Go.Sm
attribute [local irreducible] bd chk ix loopN
structure OrdIs (l : List SLeg) (o : List Int) : Prop where
  perm : o.Perm (idxs l)
  sorted : o.Pairwise fun x y => ¬ leav l y < leav l x
theorem idxs_len (l : List SLeg) : (idxs l).length = l.length := by simp [idxs]
theorem idxs_nodup (l : List SLeg) : (idxs l).Nodup := by
  unfold idxs List.Nodup
  rw [List.pairwise_map]
  exact List.nodup_range.imp fun h e => h (Int.ofNat.inj e)
theorem OrdIs.len {l : List SLeg} {o : List Int} (h : OrdIs l o) : o.length = l.length := by rw [h.perm.length_eq, idxs_len]
theorem OrdIs.mem {l : List SLeg} {o : List Int} (h : OrdIs l o) {x : Int} : x ∈ o ↔ 0 ≤ x ∧ x < (l.length : Int) := by rw [h.perm.mem_iff, idxs_mem]
theorem OrdIs.at_ {l : List SLeg} {o : List Int} (h : OrdIs l o) {t : Nat} (ht : t < l.length) : ∃ j : Nat, o.getD t 0 = (j : Int) ∧ j < l.length := by
  have := h.mem.1 (getD_mem (d := 0) (show t < o.length by rw [h.len]; exact ht))
  exact ⟨(o.getD t 0).toNat, by omega, by omega⟩
theorem OrdIs.before {l : List SLeg} {o : List Int} (h : OrdIs l o) {t : Nat} (ht : t < l.length) {i j : Nat} (hj : o.getD t 0 = (j : Int)) (hi : i < l.length) (hlt : (l.getD i dSLeg).Leaves < (l.getD j dSLeg).Leaves) : (i : Int) ∈ o.take t := by
  have hto : t < o.length := by rw [h.len]; exact ht
  have hm : (i : Int) ∈ o := h.mem.2 ⟨by omega, by omega⟩
  obtain ⟨u, hu, he⟩ := List.mem_iff_getElem.1 hm
  rw [getD_eq hto] at hj
  by_cases hut : u < t
  · exact List.mem_iff_getElem.2 ⟨u, by simp; omega, by rw [List.getElem_take]; exact he⟩
  · exfalso
    by_cases e : u = t
    · subst e
      rw [he] at hj
      have : i = j := by omega
      subst this
      omega
    · have := List.pairwise_iff_getElem.1 h.sorted t u hto hu (by omega)
      rw [he, hj] at this
      exact this (by unfold leav; rw [Int.toNat_natCast, Int.toNat_natCast]; exact hlt)
theorem OrdIs.new {l : List SLeg} {o : List Int} (h : OrdIs l o) {t : Nat} (ht : t < l.length) {j : Nat} (hj : o.getD t 0 = (j : Int)) : (j : Int) ∉ o.take t := by
  have hto : t < o.length := by rw [h.len]; exact ht
  have hn := h.perm.nodup_iff.2 (idxs_nodup l)
  intro hm
  obtain ⟨u, hu, he⟩ := List.mem_iff_getElem.1 hm
  rw [List.getElem_take] at he
  have hu' : u < t := by simp at hu; omega
  have := List.pairwise_iff_getElem.1 hn u t (by omega) hto hu'
  rw [he, ← getD_eq (d := 0) hto, hj] at this
  exact this rfl
theorem mem_take_succ {o : List Int} {t : Nat} (ht : t < o.length) {x : Int} : x ∈ o.take (t + 1) ↔ x ∈ o.take t ∨ x = o.getD t 0 := by
  rw [take_succ_getD (d := 0) ht, List.mem_append, List.mem_singleton]
open Classical in
theorem take_step {R : Type} {n : Nat} (kx : List Int → Option R) {l : List SLeg} (hl : ∀ k, k < l.length → LegB (l.getD k dSLeg)) (hlen : l.length ≤ 60) {fr at_ ch : Int} (hf : 0 ≤ fr ∧ fr ≤ 19) (ha : 0 ≤ at_) (hc : 0 ≤ ch ∧ ch ≤ 10000) {o : List Int} (ho : OrdIs l o) {t : Nat} (ht : t < l.length) {s : List Int × List Bool} (hi : TakI l fr at_ ch o t s)
    (J : Int × List Int × List Bool → Option R) (hn : 1000000000 < n) :
    ∃ s', TakI l fr at_ ch o (t + 1) s' ∧ impl_Earliest_L19 n kx (fun t120 out121 taken122 => J (t120, out121, taken122)) fr at_ ch (o.length : Int) (t : Int) l s.1 s.2 o = J (((t + 1 : Nat) : Int), s'.1, s'.2) := by
  obtain ⟨j, hj, hjl⟩ := ho.at_ ht
  have hto : t < o.length := by rw [ho.len]; exact ht
  have hjs : j < s.2.length := by rw [hi.tl]; exact hjl
  have e : w64 ((t : Int) + 1) = ((t + 1 : Nat) : Int) := w64_succ (by omega)
  have hB := hl j hjl
  have hnew := ho.new ht hj
  unfold impl_Earliest_L19 impl_Earliest_k2
  rw [decide_eq_true (show (t : Int) < (o.length : Int) by omega), cond_true, ix_nat hto, Int.toNat_natCast, chk_dec hto]
  simp only [hj, ix_nat hjl, Int.toNat_natCast, bd_eq, ix_nat hjs, chk_dec hjs]
  -- what the inner loop leaves
  have key : ∀ (b : Bool), b = lst fr at_ (l.getD j dSLeg) → ∃ s', TakI l fr at_ ch o (t + 1) s' ∧ impl_Earliest_k1 n kx (fun t120 out121 taken122 => J (t120, out121, taken122)) fr at_ ch (j : Int) (o.length : Int) (t : Int) l s.1 (s.2.set j b) (l.getD j dSLeg) o = J (((t + 1 : Nat) : Int), s'.1, s'.2) := by
    intro b hb
    unfold impl_Earliest_k1
    refine take_in (Q := fun r => ∃ s', TakI l fr at_ ch o (t + 1) s' ∧ r = J (((t + 1 : Nat) : Int), s'.1, s'.2)) _ hl hlen hc fr at_ _ _ s.1 o hjl (by simp [hi.tl]) (fun tk h1 h2 h3 => ?_) hn
    have hoth : ∀ i, i ≠ j → tk.getD i false = s.2.getD i false := fun i hij => by rw [h2 i hij, getD_set_ne hij]
    have htj : tk.getD j false = true ↔ Rch l fr at_ ch j := by
      rw [h3, getD_set hjs, hb]
      constructor
      · rintro (h | ⟨i, hil, hij, h, hg⟩)
        · exact .start hjl h
        · rw [getD_set_ne hij] at h
          exact .step ((hi.tk i).1 h).2 hjl hg
      · intro h
        cases h with
        | start h1 h2 => exact .inl h2
        | @step i _ h1 h2 h3 =>
          have hlt := lgo_lt hl hc.1 h1.lt h3
          have hij : i ≠ j := fun e => by subst e; omega
          exact .inr ⟨i, h1.lt, hij, by rw [getD_set_ne hij]; exact (hi.tk i).2 ⟨ho.before ht hj h1.lt hlt, h1⟩, h3⟩
    have htk : ∀ i : Nat, tk.getD i false = true ↔ ((i : Int) ∈ o.take (t + 1) ∧ Rch l fr at_ ch i) := fun i => by
      rw [mem_take_succ hto, hj]
      by_cases hij : i = j
      · subst hij
        rw [htj]
        exact ⟨fun h => ⟨.inr rfl, h⟩, fun h => h.2⟩
      · rw [hoth i hij, hi.tk]
        constructor
        · exact fun h => ⟨.inl h.1, h.2⟩
        · rintro ⟨h | h, hr⟩
          · exact ⟨h, hr⟩
          · exact absurd (by omega) hij
    have hjt : j < tk.length := by rw [h1]; exact hjl
    have hT : (l.getD j dSLeg).To.toNat < s.1.length := by rw [hi.ol]; have := hB.t; omega
    have hTe : (((l.getD j dSLeg).To.toNat : Nat) : Int) = (l.getD j dSLeg).To := by have := hB.t; omega
    -- what becomes of the soonest
    have hbest : ∀ o' : List Int, o'.length = 20 → (∀ p : Nat, p < 20 → o'.getD p 0 = if Rch l fr at_ ch j ∧ (l.getD j dSLeg).To = (p : Int) ∧ (s.1.getD p 0 < 0 ∨ (l.getD j dSLeg).Comes < s.1.getD p 0) then (l.getD j dSLeg).Comes else s.1.getD p 0) → TakI l fr at_ ch o (t + 1) (o', tk) := fun o' hlo hv => by
      refine ⟨h1, htk, hlo, ?_, fun p hp hne => ?_⟩
      · rw [hv _ (by omega), if_neg, hi.oa]
        rintro ⟨hr, _, h | h⟩
        · rw [hi.oa] at h; omega
        · rw [hi.oa] at h
          have := hr.late hl hc.1
          have := hB.lt
          omega
      · rw [hv p hp]
        exact ((hi.best p hp hne).more hl j).congr fun i => by rw [mem_take_succ hto, hj]; constructor <;> rintro (h | h) <;> first | exact .inl h | exact .inr (by omega)
    have hset : ∀ p : Nat, p < 20 → (s.1.set (l.getD j dSLeg).To.toNat (l.getD j dSLeg).Comes).getD p 0 = if (l.getD j dSLeg).To = (p : Int) then (l.getD j dSLeg).Comes else s.1.getD p 0 := fun p hp => by
      by_cases hpe : (l.getD j dSLeg).To = (p : Int)
      · rw [if_pos hpe]
        have : p = (l.getD j dSLeg).To.toNat := by omega
        rw [this]
        exact getD_set hT
      · rw [if_neg hpe]
        exact getD_set_ne (by omega)
    show ∃ s', _ ∧ (ix (j : Int) tk.length (chk (decide ((j : Int).toNat < tk.length)) (bif tk.getD (j : Int).toNat false then _ else _))) = _
    rw [ix_nat hjt, Int.toNat_natCast, chk_dec hjt]
    by_cases hr : Rch l fr at_ ch j
    · rw [htj.2 hr, cond_true, ix_of hB.t.1 (by rw [hi.ol]; have := hB.t; omega), chk_dec hT]
      by_cases hv : s.1.getD (l.getD j dSLeg).To.toNat 0 < 0
      · rw [decide_eq_true hv, cond_true, ix_of hB.t.1 (by rw [hi.ol]; have := hB.t; omega), chk_dec hT, bd_eq, e]
        refine ⟨(_, tk), hbest _ (by simp [hi.ol]) fun p hp => ?_, rfl⟩
        rw [hset p hp]
        by_cases hpe : (l.getD j dSLeg).To = (p : Int)
        · rw [if_pos hpe, if_pos ⟨hr, hpe, .inl (by rw [hpe, Int.toNat_natCast] at hv; exact hv)⟩]
        · rw [if_neg hpe, if_neg (fun h => hpe h.2.1)]
      · rw [decide_eq_false hv, cond_false, ix_of hB.t.1 (by rw [hi.ol]; have := hB.t; omega), chk_dec hT]
        by_cases hv2 : (l.getD j dSLeg).Comes < s.1.getD (l.getD j dSLeg).To.toNat 0
        · rw [decide_eq_true hv2, cond_true, ix_of hB.t.1 (by rw [hi.ol]; have := hB.t; omega), chk_dec hT, bd_eq, e]
          refine ⟨(_, tk), hbest _ (by simp [hi.ol]) fun p hp => ?_, rfl⟩
          rw [hset p hp]
          by_cases hpe : (l.getD j dSLeg).To = (p : Int)
          · rw [if_pos hpe, if_pos ⟨hr, hpe, .inr (by rw [hpe, Int.toNat_natCast] at hv2; exact hv2)⟩]
          · rw [if_neg hpe, if_neg (fun h => hpe h.2.1)]
        · rw [decide_eq_false hv2, cond_false, e]
          refine ⟨(_, tk), hbest _ hi.ol fun p hp => ?_, rfl⟩
          rw [if_neg]
          rintro ⟨_, hpe, h⟩
          rw [hpe, Int.toNat_natCast] at hv hv2
          exact h.elim hv hv2
    · have hf' : tk.getD j false = false := by
        cases h : tk.getD j false with
        | false => rfl
        | true => exact absurd (htj.1 h) hr
      rw [hf', cond_false, e]
      refine ⟨(_, tk), hbest _ hi.ol fun p hp => ?_, rfl⟩
      rw [if_neg (fun h => hr h.1)]
  by_cases hfr : (l.getD j dSLeg).From = fr
  · rw [decide_eq_true hfr, cond_true]
    exact key _ (by unfold lst; rw [decide_eq_true hfr, Bool.true_and])
  · rw [decide_eq_false hfr, cond_false]
    exact key _ (by unfold lst; rw [decide_eq_false hfr, Bool.false_and])
theorem earl_impl {n : Nat} (l : List SLeg) (fr at_ ch : Int) (hl : l.length ≤ 1048576) (hn : 1000000000 < n) :
    (earlOk l fr at_ ch = false ∧ impl_Earliest n l fr at_ ch = some ([], false)) ∨ (earlOk l fr at_ ch = true ∧ ∃ e, impl_Earliest n l fr at_ ch = some (e, true) ∧ EarlIs l fr at_ ch e) := by
  unfold impl_Earliest
  rw [right_impl l fr at_ ch hl hn, Option.bind_some]
  cases h : earlOk l fr at_ ch with
  | false => exact .inl ⟨rfl, rfl⟩
  | true =>
    right
    refine ⟨rfl, ?_⟩
    obtain ⟨h1, h2, h3, h4⟩ := earlOk_is h
    obtain ⟨hlen, hb⟩ := legs_at h1
    simp only [Bool.not_true, cond_false]
    unfold impl_Earliest_k3
    have hfr : fr.toNat < 20 := by omega
    refine loop_runS (enc := fun i (s : List Int) => (i, s)) (I := fun k s => s.length = 20 ∧ ∀ p, p < k → s.getD p 0 = -1) (Q := fun r => ∃ e, r = some (e, true) ∧ EarlIs l fr at_ ch e) (len := 20)
      (fun k s J hk hi => ⟨s.set k (-1), ⟨by simp [hi.1], fun p hp => ?_⟩, ?_⟩) (fun s J hi => ?_) (by omega) ⟨by simp, fun p hp => absurd hp (Nat.not_lt_zero _)⟩
    · by_cases e : p = k
      · subst e; exact getD_set (by rw [hi.1]; exact hk)
      · rw [getD_set_ne e]; exact hi.2 p (by omega)
    · have hks : k < s.length := by rw [hi.1]; exact hk
      have e : w64 ((k : Int) + 1) = ((k + 1 : Nat) : Int) := w64_succ (by omega)
      show impl_Earliest_L5 n _ (fun t125 out126 => J (t125, out126)) fr at_ ch _ (k : Int) l s = _
      unfold impl_Earliest_L5
      rw [decide_eq_true (by simp; omega), cond_true, ix_nat hks, Int.toNat_natCast, chk_dec hks, bd_eq, e]
    · show ∃ e, impl_Earliest_L5 n _ (fun t125 out126 => J (t125, out126)) fr at_ ch _ 20 l s = _ ∧ _
      unfold impl_Earliest_L5
      have hfs : fr.toNat < s.length := by rw [hi.1]; exact hfr
      rw [decide_eq_false (by simp), cond_false]
      show ∃ e, (ix fr s.length (chk (decide (fr.toNat < s.length)) _)) = some (e, true) ∧ _
      rw [ix_of h2.1 (by rw [hi.1]; omega), chk_dec hfs, chk_dec (by omega), chk_dec (by omega), chk_dec (by omega)]
      refine loop_runS (enc := fun i (s : List Int) => (i, s)) (I := fun k s => s.length = l.length ∧ ∀ p : Nat, p < k → s.getD p 0 = (p : Int)) (Q := fun r => ∃ e, r = some (e, true) ∧ EarlIs l fr at_ ch e) (len := l.length)
        (fun k o J hk hi => ⟨o.set k (k : Int), ⟨by simp [hi.1], fun p hp => ?_⟩, ?_⟩) (fun o J hio => ?_) (by omega) ⟨by simp, fun p hp => absurd hp (Nat.not_lt_zero _)⟩
      · by_cases e : p = k
        · subst e; exact getD_set (by rw [hi.1]; exact hk)
        · rw [getD_set_ne e]; exact hi.2 p (by omega)
      · have hks : k < o.length := by rw [hi.1]; exact hk
        have e : w64 ((k : Int) + 1) = ((k + 1 : Nat) : Int) := w64_succ (by omega)
        show impl_Earliest_L12 n _ (fun t123 order124 => J (t123, order124)) fr at_ ch _ (k : Int) l _ o = _
        unfold impl_Earliest_L12
        rw [decide_eq_true (by simp; omega), cond_true, ix_nat hks, Int.toNat_natCast, chk_dec hks, e]
      · have ho : o = idxs l := by
          apply List.ext_getElem (by rw [hio.1, idxs_len])
          intro i g1 g2
          rw [← getD_eq (d := 0) g1, hio.2 i (by rw [← hio.1]; exact g1)]
          simp [idxs]
        subst ho
        show ∃ e, impl_Earliest_L12 n _ (fun t123 order124 => J (t123, order124)) fr at_ ch _ (l.length : Int) l _ (idxs l) = _ ∧ _
        unfold impl_Earliest_L12
        rw [decide_eq_false (by simp), cond_false]
        obtain ⟨o, g1, g2, g3⟩ := sort_legs n hlen
        show ∃ e, (slices_SortFunc_int_int__impl_Earliest_1 n (idxs l) l).bind _ = some (e, true) ∧ _
        rw [g1, Option.bind_some, chk_dec (by omega), chk_dec (by omega), chk_dec (by omega)]
        have hO : OrdIs l o := ⟨g2, g3⟩
        refine loop_runS (enc := fun i (s : List Int × List Bool) => (i, s.1, s.2)) (I := fun k s => TakI l fr at_ ch o k s) (Q := fun r => ∃ e, r = some (e, true) ∧ EarlIs l fr at_ ch e) (len := l.length)
          (fun k s J hk hi => take_step _ hb hlen h2 h3.1 h4 hO hk hi J hn) (fun s2 J hi2 => ?_) (by omega) (s0 := (s.set fr.toNat at_, List.replicate (l.length : Int).toNat false)) ⟨by simp, fun i => ?_, by simp [hi.1], getD_set hfs, fun p hp hne => ?_⟩
        · show ∃ e, impl_Earliest_L19 n _ (fun t120 out121 taken122 => J (t120, out121, taken122)) fr at_ ch (o.length : Int) (l.length : Int) l s2.1 s2.2 o = _ ∧ _
          unfold impl_Earliest_L19
          rw [decide_eq_false (by rw [hO.len]; omega), cond_false]
          refine ⟨_, rfl, hi2.ol, hi2.oa, fun p hp hne => (hi2.best p hp hne).congr fun i => ?_⟩
          rw [List.take_of_length_le (by rw [hO.len]; exact Nat.le_refl _), hO.mem]
          omega
        · constructor
          · intro h; simp [List.getD_eq_getElem?_getD, List.getElem?_replicate] at h; split at h <;> cases h
          · rintro ⟨h, _⟩; simp at h
        · refine .inl ⟨?_, fun i h => by simp at h⟩
          rw [getD_set_ne (by omega)]
          exact hi.2 p hp
end Go.Sm
end

section
set_option linter.unusedSimpArgs false
set_option linter.deprecated false
set_option linter.unusedSectionVars false
set_option linter.unusedVariables false
set_option linter.unusedSimpArgs false
namespace Go.Sm
attribute [local irreducible] bd chk ix loopN
/-! ### Ways: legs that come to the end by so many more -/
section
variable (l : List SLeg) (to when ch : Int)
def endsF : Nat → Nat → Bool
  | 0, i => decide ((l.getD i dSLeg).To = to) && decide ((l.getD i dSLeg).Comes = when)
  | k + 1, i => (List.range l.length).any fun j => endsF k j && lgo ch (l.getD i dSLeg) (l.getD j dSLeg)
/-- The first way of k + 1 legs. -/
def greL : Nat → (Nat → Bool) → List Int
  | 0, may => match (List.range l.length).find? fun j => may j && endsF l to when ch 0 j with
    | some j => [(j : Int)]
    | none => []
  | k + 1, may => match (List.range l.length).find? fun j => may j && endsF l to when ch (k + 1) j with
    | some j => (j : Int) :: greL k fun x => lgo ch (l.getD j dSLeg) (l.getD x dSLeg)
    | none => []
end
def mayS (l : List SLeg) (port at_ service ch : Int) (j : Nat) : Bool := decide ((l.getD j dSLeg).From = port) && decide (at_ + (if service = 0 ∨ service = (l.getD j dSLeg).Service then 0 else ch) ≤ (l.getD j dSLeg).Leaves)
theorem mayS_leg {l : List SLeg} {i : Nat} (hB : LegB (l.getD i dSLeg)) (ch : Int) : mayS l (l.getD i dSLeg).To (l.getD i dSLeg).Comes (l.getD i dSLeg).Service ch = fun x => lgo ch (l.getD i dSLeg) (l.getD x dSLeg) := by
  funext x
  have h0 : (l.getD i dSLeg).Service ≠ 0 := by have := hB.s; omega
  unfold mayS lgo
  simp only [h0, false_or]
  congr 1
  simp only [decide_eq_decide]
  exact eq_comm
theorem any_comm2 {p q : Nat → Bool} {m : Nat} : ((List.range m).any fun j => p j && q j) = (List.range m).any fun j => q j && p j := by
  congr 1; funext j; exact Bool.and_comm _ _
theorem find_any {p : Nat → Bool} {m : Nat} (h : (List.range m).any p = true) : ∃ k, (List.range m).find? p = some k ∧ k < m ∧ p k = true := by
  rcases find_range p m with ⟨_, h2⟩ | ⟨k, h1, h2, h3, _⟩
  · obtain ⟨x, h3, h4⟩ := List.any_eq_true.1 h
    rw [h2 x (List.mem_range.1 h3)] at h4; cases h4
  · exact ⟨k, h1, h2, h3⟩
theorem find_not_any {p : Nat → Bool} {m : Nat} (h : (List.range m).any p = false) : (List.range m).find? p = none := find_range_none fun j hj => by
  have := List.any_eq_false.1 h j (List.mem_range.2 hj)
  simpa using this
theorem greL_none {l : List SLeg} {to when ch : Int} {k : Nat} {may : Nat → Bool} (h : ((List.range l.length).any fun j => may j && endsF l to when ch k j) = false) : greL l to when ch k may = [] := by
  cases k with
  | zero => unfold greL; rw [find_not_any h]
  | succ k => unfold greL; rw [find_not_any h]
theorem greL_some {l : List SLeg} {to when ch : Int} {k j : Nat} {may : Nat → Bool} (h : ((List.range l.length).find? fun j => may j && endsF l to when ch (k + 1) j) = some j) : greL l to when ch (k + 1) may = (j : Int) :: greL l to when ch k (fun x => lgo ch (l.getD j dSLeg) (l.getD x dSLeg)) := by
  rw [greL, h]
theorem greL_one {l : List SLeg} {to when ch : Int} {j : Nat} {may : Nat → Bool} (h : ((List.range l.length).find? fun j => may j && endsF l to when ch 0 j) = some j) : greL l to when ch 0 may = [(j : Int)] := by
  rw [greL, h]
theorem greL_len {l : List SLeg} {to when ch : Int} : ∀ {k : Nat} {may : Nat → Bool}, ((List.range l.length).any fun j => may j && endsF l to when ch k j) = true → (greL l to when ch k may).length = k + 1
  | 0, may, h => by
    obtain ⟨j, h1, _, _⟩ := find_any h
    unfold greL; rw [h1]; rfl
  | k + 1, may, h => by
    obtain ⟨j, h1, _, h3⟩ := find_any h
    unfold greL
    rw [h1]
    simp only [Bool.and_eq_true] at h3
    have h4 := h3.2
    unfold endsF at h4
    rw [any_comm2] at h4
    simp only [List.length_cons]
    rw [greL_len h4]
/-- What each number of legs answers. -/
def wayF (l : List SLeg) (fr to at_ ch when : Int) (k : Nat) : Option (Option (List Int × Bool)) :=
  if ((List.range l.length).any fun j => mayS l fr at_ 0 ch j && endsF l to when ch k j) = true then some (some (greL l to when ch k (mayS l fr at_ 0 ch), true)) else none
def travelR (l : List SLeg) (fr to at_ ch : Int) (e : List Int) : Option (List Int × Bool) :=
  bif decide (e.getD to.toNat 0 < 0) then some ([], false) else bif decide (fr = to) then some ([], true) else scanK (wayF l fr to at_ ch (e.getD to.toNat 0)) (some ([], false)) 6 0
end Go.Sm
end

section
set_option linter.unusedSimpArgs false
set_option linter.deprecated false
set_option linter.unusedSectionVars false
set_option linter.unusedVariables false
set_option linter.unusedSimpArgs false
namespace Go.Sm
attribute [local irreducible] bd chk ix loopN
/-! ### The second function's ways -/
theorem may_nil {n : Nat} {l : List SLeg} {fr at_ ch : Int} {j : Nat} (hj : j < l.length) : impl_Travel_1 n (j : Int) [] l fr at_ ch = some (mayS l fr at_ 0 ch j) := by
  unfold impl_Travel_1 mayS
  simp only [List.length_nil, Int.ofNat_zero, decide_true, cond_true, ix_nat hj, Int.toNat_natCast, bd_eq, true_or, if_true, Int.add_zero]
  cases decide ((l.getD j dSLeg).From = fr) <;> rfl
theorem may_app {n : Nat} {l : List SLeg} (hl : ∀ k, k < l.length → LegB (l.getD k dSLeg)) {fr at_ ch : Int} (hc : 0 ≤ ch ∧ ch ≤ 10000) {i j : Nat} (hi : i < l.length) (hj : j < l.length) {c : List Int} (hcl : c.length ≤ 1000) : impl_Travel_1 n (j : Int) (c ++ [(i : Int)]) l fr at_ ch = some (lgo ch (l.getD i dSLeg) (l.getD j dSLeg)) := by
  have e1 : ((c ++ [(i : Int)]).length : Int) = (c.length : Int) + 1 := by simp
  have e2 : w64 ((c.length : Int) + 1 - 1) = (c.length : Int) := by rw [w64_id (by omega) (by omega)]; omega
  have e3 : (c ++ [(i : Int)]).getD c.length 0 = (i : Int) := by simp [List.getD_eq_getElem?_getD]
  unfold impl_Travel_1 impl_Travel_1_k0
  rw [e1, decide_eq_false (by omega), cond_false, e2, bd_eq, ix_nat (by simp), Int.toNat_natCast, e3, ix_nat hi, Int.toNat_natCast, bd_eq, ix_nat hj, Int.toNat_natCast, bd_eq, changes_eq n (hl i hi) hc]
  rfl
def rowE (l : List SLeg) (to when ch : Int) (q : Nat) : List Bool := (List.range l.length).map (endsF l to when ch q)
def rowsE (l : List SLeg) (to when ch : Int) (m : Nat) : List (List Bool) := (List.range m).map (rowE l to when ch)
theorem rowE_len (l : List SLeg) (to when ch : Int) (q : Nat) : (rowE l to when ch q).length = l.length := by simp [rowE]
theorem rowE_at {l : List SLeg} {to when ch : Int} {q j : Nat} (hj : j < l.length) : (rowE l to when ch q).getD j false = endsF l to when ch q j := by
  rw [getD_eq (by rw [rowE_len]; exact hj)]; simp [rowE]
theorem rowsE_len (l : List SLeg) (to when ch : Int) (m : Nat) : (rowsE l to when ch m).length = m := by simp [rowsE]
theorem rowsE_at {l : List SLeg} {to when ch : Int} {m q : Nat} (hq : q < m) : (rowsE l to when ch m).getD q [] = rowE l to when ch q := by
  rw [getD_eq (by rw [rowsE_len]; exact hq)]; simp [rowsE]
theorem rowsE_succ (l : List SLeg) (to when ch : Int) (m : Nat) : rowsE l to when ch (m + 1) = rowsE l to when ch m ++ [rowE l to when ch m] := by
  unfold rowsE; rw [List.range_succ, List.map_append]; rfl
theorem row_ext {l : List SLeg} {to when ch : Int} {q : Nat} {s : List Bool} (hs : s.length = l.length) (h : ∀ i, i < l.length → s.getD i false = endsF l to when ch q i) : s = rowE l to when ch q := by
  apply List.ext_getElem (by rw [hs, rowE_len])
  intro i h1 h2
  rw [← getD_eq (d := false) h1, ← getD_eq (d := false) h2, h i (by omega), rowE_at (by omega)]
theorem way_turn {R : Type} {n : Nat} (kx : List Int → Option R) {l : List SLeg} (hlen : l.length ≤ 60) {fr to at_ ch when : Int} (nn : Int) {m k : Nat} (hk : k < m) (hm : m ≤ 100) {c : List Int} {may : Nat → Bool} (hmay : ∀ j, j < l.length → impl_Travel_1 n (j : Int) c l fr at_ ch = some (may j)) (J : Int × List Int → Option R) (hc : c.length ≤ 1000) (hn : 1000000000 < n) :
    impl_Travel_L18 n kx (fun k124 c125 => J (k124, c125)) nn (k : Int) l fr at_ ch (rowsE l to when ch m) c = match (List.range l.length).find? (fun j => may j && endsF l to when ch k j) with
      | some j => J ((k : Int) - 1, c ++ [(j : Int)])
      | none => kx c := by
  have e : w64 ((k : Int) - 1) = (k : Int) - 1 := w64_id (by omega) (by omega)
  have hkr : k < (rowsE l to when ch m).length := by rw [rowsE_len]; exact hk
  unfold impl_Travel_L18
  rw [decide_eq_true (show (k : Int) ≥ 0 by omega), cond_true]
  unfold impl_Travel_k1
  refine Eq.trans (loop_find (len := l.length) (p := fun j => may j && endsF l to when ch k j) (yes := fun j => J ((k : Int) - 1, c ++ [(j : Int)])) (no := kx c) (by omega) (fun i J' hi _ => ?_) (fun J' _ => ?_) (by omega)) ?_
  · have e1 : w64 ((i : Int) + 1) = ((i + 1 : Nat) : Int) := w64_succ (by omega)
    have hir : i < (rowE l to when ch k).length := by rw [rowE_len]; exact hi
    unfold impl_Travel_L21
    rw [decide_eq_true (show (i : Int) < (l.length : Int) by omega), cond_true, ix_nat hkr, Int.toNat_natCast, chk_dec hkr, chk_dec hkr, rowsE_at hk, ix_nat hir, chk_dec hkr, Int.toNat_natCast, chk_dec hir, rowE_at hi, e1]
    cases endsF l to when ch k i with
    | false => simp
    | true =>
      simp only [cond_true, Bool.and_true]
      rw [hmay i hi, Option.bind_some]
      cases may i with
      | false => rfl
      | true =>
        simp only [Bool.not_true, cond_false, cond_true]
        rw [decide_eq_false (by omega), cond_false, chk_dec (by simp; omega), e]
  · unfold impl_Travel_L21
    rw [decide_eq_false (by omega), cond_false]
    show (bif decide ((l.length : Int) = (l.length : Int)) then kx c else _) = _
    rw [decide_eq_true rfl, cond_true]
  · cases (List.range l.length).find? (fun j => may j && endsF l to when ch k j) <;> rfl
theorem way_impl {R : Type} {n : Nat} (kx : List Int → Option R) {l : List SLeg} (hl : ∀ k, k < l.length → LegB (l.getD k dSLeg)) (hlen : l.length ≤ 60) {fr to at_ ch when : Int} (hc : 0 ≤ ch ∧ ch ≤ 10000) (nn : Int) {m : Nat} (hm : m ≤ 100) (hn : 1000000000 < n) :
    ∀ (k : Nat) (c : List Int) (may : Nat → Bool) (fuel : Nat), k < m → k + 1 < fuel → (∀ j, j < l.length → impl_Travel_1 n (j : Int) c l fr at_ ch = some (may j)) → c.length + k ≤ 900 →
    loopN (fun (x : Int × List Int) J' => impl_Travel_L18 n kx (fun k124 c125 => J' (k124, c125)) nn x.1 l fr at_ ch (rowsE l to when ch m) x.2) fuel ((k : Int), c) = kx (c ++ greL l to when ch k may) := by
  intro k
  induction k with
  | zero =>
    intro c may fuel hk hf hmay hcl
    obtain ⟨fuel, rfl⟩ : ∃ f, fuel = f + 1 + 1 := ⟨fuel - 2, by omega⟩
    rw [loopN_succ, way_turn kx hlen nn hk hm hmay _ (by omega) hn]
    cases h : (List.range l.length).find? (fun j => may j && endsF l to when ch 0 j) with
    | none => rw [greL, h]; simp
    | some j =>
      rw [greL_one h]
      show loopN _ (fuel + 1) _ = _
      rw [loopN_succ]
      unfold impl_Travel_L18
      rw [decide_eq_false (by omega), cond_false]
  | succ k ih =>
    intro c may fuel hk hf hmay hcl
    obtain ⟨fuel, rfl⟩ : ∃ f, fuel = f + 1 := ⟨fuel - 1, by omega⟩
    rw [loopN_succ, way_turn kx hlen nn hk hm hmay _ (by omega) hn]
    cases h : (List.range l.length).find? (fun j => may j && endsF l to when ch (k + 1) j) with
    | none => rw [greL, h]; simp
    | some j =>
      have hj : j < l.length := List.mem_range.1 (List.mem_of_find?_eq_some h)
      rw [greL_some h]
      show loopN _ fuel _ = _
      rw [show ((k + 1 : Nat) : Int) - 1 = (k : Int) by omega, ih (c ++ [(j : Int)]) (fun x => lgo ch (l.getD j dSLeg) (l.getD x dSLeg)) fuel (by omega) (by omega) (fun x hx => may_app hl hc hj hx (by omega)) (by simp; omega)]
      simp
theorem own_ints (n : Nat) (c : List Int) (h : c.length ≤ 1000) : impl_own_int n c = some c := by
  unfold impl_own_int
  rw [chk_dec (by omega), chk_dec (by omega), chk_dec (by omega)]
/-- One row more. -/
theorem row_in {R : Type} {n : Nat} (kx : List Bool → Option R) {l : List SLeg} (hl : ∀ k, k < l.length → LegB (l.getD k dSLeg)) (hlen : l.length ≤ 60) {fr to at_ ch when : Int} (hc : 0 ≤ ch ∧ ch ≤ 10000) {m q : Nat} (hq : q < m) {i : Nat} (hi : i < l.length) (t1 t2 : Int) {s0 : List Bool} (hs0 : s0.length = l.length) (h0 : s0.getD i false = false) {Q : Option R → Prop}
    (hq' : ∀ s : List Bool, s.length = l.length → (∀ x, x ≠ i → s.getD x false = s0.getD x false) → s.getD i false = endsF l to when ch (q + 1) i → Q (kx s)) (hn : 1000000000 < n) :
    Q (loopN (fun (x : Int × List Bool) J' => impl_Travel_L32 n kx (fun t117 next118 => J' (t117, next118)) (q : Int) (i : Int) t1 t2 (l.length : Int) x.1 l fr at_ ch (rowsE l to when ch m) x.2) n ((0 : Int), s0)) := by
  have hqr : q < (rowsE l to when ch m).length := by rw [rowsE_len]; exact hq
  refine loop_runS (enc := fun i (s : List Bool) => (i, s)) (I := fun k s => s.length = l.length ∧ (∀ x, x ≠ i → s.getD x false = s0.getD x false) ∧ s.getD i false = (List.range k).any fun j => endsF l to when ch q j && lgo ch (l.getD i dSLeg) (l.getD j dSLeg)) (len := l.length)
    (fun k s J hk hI => ?_) (fun s J hI => ?_) (by omega) ⟨hs0, fun _ _ => rfl, h0⟩
  · obtain ⟨h1, h2, h3⟩ := hI
    have his : i < s.length := by rw [h1]; exact hi
    have hkr : k < (rowE l to when ch q).length := by rw [rowE_len]; exact hk
    have e : w64 ((k : Int) + 1) = ((k + 1 : Nat) : Int) := w64_succ (by omega)
    have hset : ∀ b : Bool, (b = ((List.range (k + 1)).any fun j => endsF l to when ch q j && lgo ch (l.getD i dSLeg) (l.getD j dSLeg))) → (s.set i b).length = l.length ∧ (∀ x, x ≠ i → (s.set i b).getD x false = s0.getD x false) ∧ (s.set i b).getD i false = (List.range (k + 1)).any fun j => endsF l to when ch q j && lgo ch (l.getD i dSLeg) (l.getD j dSLeg) := fun b hb =>
      ⟨by simp [h1], fun x hx => by rw [getD_set_ne hx]; exact h2 x hx, by rw [getD_set his]; exact hb⟩
    show ∃ s', _ ∧ impl_Travel_L32 n kx (fun t117 next118 => J (t117, next118)) (q : Int) (i : Int) t1 t2 (l.length : Int) (k : Int) l fr at_ ch (rowsE l to when ch m) s = J (((k + 1 : Nat) : Int), s')
    unfold impl_Travel_L32 impl_Travel_k2
    rw [decide_eq_true (show (k : Int) < (l.length : Int) by omega), cond_true, ix_nat his, Int.toNat_natCast, chk_dec his]
    cases hsi : s.getD i false with
    | true =>
      rw [cond_true, ix_nat his, chk_dec his, e]
      refine ⟨s.set i true, hset true ?_, rfl⟩
      rw [any_range_succ, ← h3, hsi, Bool.true_or]
    | false =>
      rw [cond_false, ix_nat hqr, Int.toNat_natCast, chk_dec hqr, chk_dec hqr, rowsE_at hq, ix_nat hkr, chk_dec hqr, Int.toNat_natCast, chk_dec hkr, rowE_at hk]
      cases hE : endsF l to when ch q k with
      | true =>
        rw [cond_true, ix_nat hi, bd_eq, ix_nat hk, bd_eq, changes_eq n (hl i hi) hc, Option.bind_some, ix_nat his, chk_dec his, e]
        refine ⟨s.set i (lgo ch (l.getD i dSLeg) (l.getD k dSLeg)), hset _ ?_, rfl⟩
        rw [any_range_succ, ← h3, hsi, hE, Bool.false_or, Bool.true_and]
      | false =>
        rw [cond_false, ix_nat his, chk_dec his, bd_eq, e]
        refine ⟨s.set i false, hset _ ?_, rfl⟩
        rw [any_range_succ, ← h3, hsi, hE]; rfl
  · show Q (impl_Travel_L32 n kx (fun t117 next118 => J (t117, next118)) (q : Int) (i : Int) t1 t2 (l.length : Int) (l.length : Int) l fr at_ ch (rowsE l to when ch m) s)
    unfold impl_Travel_L32
    rw [decide_eq_false (by omega), cond_false]
    exact hq' s hI.1 hI.2.1 hI.2.2
theorem row_more {R : Type} {n : Nat} (kx2 : Option R) (kxr : Bool → List Int → Option R) {l : List SLeg} (hl : ∀ k, k < l.length → LegB (l.getD k dSLeg)) (hlen : l.length ≤ 60) {fr to at_ ch when : Int} (hc : 0 ≤ ch ∧ ch ≤ 10000) {q : Nat} (hq : q ≤ 10) (J : Int → List (List Bool) → Option R) (hn : 1000000000 < n) :
    impl_Travel_k3 n kx2 kxr J (q : Int) l fr at_ ch (rowsE l to when ch (q + 1)) = J ((q + 1 : Nat) : Int) (rowsE l to when ch (q + 1 + 1)) := by
  have e : w64 ((q : Int) + 1) = ((q + 1 : Nat) : Int) := w64_succ (by omega)
  unfold impl_Travel_k3
  rw [chk_dec (by omega), chk_dec (by omega), chk_dec (by omega)]
  refine loop_runS (enc := fun i (s : List Bool) => (i, s)) (I := fun k s => s.length = l.length ∧ (∀ x, x < k → s.getD x false = endsF l to when ch (q + 1) x) ∧ ∀ x, k ≤ x → s.getD x false = false) (Q := fun r => r = J ((q + 1 : Nat) : Int) (rowsE l to when ch (q + 1 + 1))) (len := l.length)
    (fun k s J' hk hI => ?_) (fun s J' hI => ?_) (by omega) ⟨by simp, fun x hx => absurd hx (Nat.not_lt_zero _), fun x _ => ?_⟩
  · have e1 : w64 ((k : Int) + 1) = ((k + 1 : Nat) : Int) := w64_succ (by omega)
    show ∃ s', _ ∧ impl_Travel_L29 n _ (fun t122 next123 => J' (t122, next123)) (q : Int) (l.length : Int) (k : Int) l fr at_ ch (rowsE l to when ch (q + 1)) s = J' (((k + 1 : Nat) : Int), s')
    unfold impl_Travel_L29
    rw [decide_eq_true (show (k : Int) < (l.length : Int) by omega), cond_true]
    refine row_in (Q := fun r => ∃ s', (s'.length = l.length ∧ (∀ x, x < k + 1 → s'.getD x false = endsF l to when ch (q + 1) x) ∧ ∀ x, k + 1 ≤ x → s'.getD x false = false) ∧ r = J' (((k + 1 : Nat) : Int), s')) _ hl hlen hc (Nat.lt_succ_self q) hk _ _ hI.1 (hI.2.2 k (Nat.le_refl _)) (fun s' g1 g2 g3 => ⟨s', ⟨g1, fun x hx => ?_, fun x hx => ?_⟩, ?_⟩) hn
    · by_cases hxk : x = k
      · subst hxk; exact g3
      · rw [g2 x hxk]; exact hI.2.1 x (by omega)
    · rw [g2 x (by omega)]; exact hI.2.2 x (by omega)
    · show J' (w64 ((k : Int) + 1), s') = _
      rw [e1]
  · show impl_Travel_L29 n _ (fun t122 next123 => J' (t122, next123)) (q : Int) (l.length : Int) (l.length : Int) l fr at_ ch (rowsE l to when ch (q + 1)) s = _
    unfold impl_Travel_L29
    rw [decide_eq_false (by omega), cond_false]
    show (chk (decide ((rowsE l to when ch (q + 1) ++ [s]).length * 24 ≤ 140737488355328)) (J (w64 ((q : Int) + (1 : Int))) (rowsE l to when ch (q + 1) ++ [s]))) = _
    rw [chk_dec (by simp [rowsE_len]; omega), e, rowsE_succ _ _ _ _ (q + 1), row_ext hI.1 hI.2.1]
  · simp [List.getD_eq_getElem?_getD, List.getElem?_replicate]
    split <;> rfl
theorem ways_impl {n : Nat} {l : List SLeg} (hl : ∀ k, k < l.length → LegB (l.getD k dSLeg)) (hlen : l.length ≤ 60) {fr to at_ ch when : Int} (hc : 0 ≤ ch ∧ ch ≤ 10000) (hn : 1000000000 < n) :
    loopN (fun (x : Int × List (List Bool)) J' => impl_Travel_L13 n (some ([], false)) (fun t126 t127 => some (t127, t126)) (fun n128 ends129 => J' (n128, ends129)) x.1 l fr at_ ch x.2) n ((0 : Int), rowsE l to when ch 1) = scanK (wayF l fr to at_ ch when) (some ([], false)) 6 0 := by
  refine loop_scan (enc := fun k => ((k : Int), rowsE l to when ch (k + 1))) (len := 6) (fun k J hk => ?_) (fun J => ?_) 6 0 n (by omega) (by omega)
  · show impl_Travel_L13 n _ _ (fun n128 ends129 => J (n128, ends129)) (k : Int) l fr at_ ch (rowsE l to when ch (k + 1)) = _
    unfold impl_Travel_L13
    rw [decide_eq_true (show (k : Int) < 6 by omega), cond_true]
    unfold impl_Travel_k4
    rw [way_impl _ hl hlen hc (k : Int) (m := k + 1) (by omega) hn k [] (mayS l fr at_ 0 ch) n (by omega) (by omega) (fun j hj => may_nil hj) (by simp; omega), List.nil_append]
    have e : w64 ((k : Int) + 1) = ((k + 1 : Nat) : Int) := w64_succ (by omega)
    rw [e]
    unfold wayF
    cases h : (List.range l.length).any fun j => mayS l fr at_ 0 ch j && endsF l to when ch k j with
    | true =>
      rw [greL_len h, decide_eq_true rfl, cond_true, own_ints n _ (by rw [greL_len h]; omega), Option.bind_some]
      rfl
    | false =>
      rw [greL_none h, decide_eq_false (by simp; omega), cond_false, row_more _ _ hl hlen hc (by omega) _ hn]
      rfl
  · show impl_Travel_L13 n _ _ (fun n128 ends129 => J (n128, ends129)) 6 l fr at_ ch _ = _
    unfold impl_Travel_L13
    rw [decide_eq_false (by omega), cond_false]
theorem row_first {n : Nat} {R : Type} (kx : List (List Bool) → Option R) {l : List SLeg} (hl : ∀ k, k < l.length → LegB (l.getD k dSLeg)) (hlen : l.length ≤ 60) {fr to at_ ch : Int} {e : List Int} (he : e.length = 20) (ht : 0 ≤ to ∧ to ≤ 19) (hn : 1000000000 < n) :
    loopN (fun (x : Int × List (List Bool)) J' => impl_Travel_L8 n kx (fun t130 ends131 => J' (t130, ends131)) to l (l.length : Int) x.1 l fr at_ ch e x.2) n ((0 : Int), [(List.replicate (l.length : Int).toNat false)]) = kx (rowsE l to (e.getD to.toNat 0) ch 1) := by
  refine loop_runS (enc := fun i (s : List Bool) => (i, [s])) (I := fun k s => s.length = l.length ∧ ∀ x, x < k → s.getD x false = endsF l to (e.getD to.toNat 0) ch 0 x) (Q := fun r => r = kx (rowsE l to (e.getD to.toNat 0) ch 1)) (len := l.length)
    (fun k s J hk hI => ?_) (fun s J hI => ?_) (by omega) ⟨by simp, fun x hx => absurd hx (Nat.not_lt_zero _)⟩
  · have e1 : w64 ((k : Int) + 1) = ((k + 1 : Nat) : Int) := w64_succ (by omega)
    have hks : k < s.length := by rw [hI.1]; exact hk
    have h1 : 0 < [s].length := by simp
    have hset : ∀ b : Bool, b = endsF l to (e.getD to.toNat 0) ch 0 k → (s.set k b).length = l.length ∧ ∀ x, x < k + 1 → (s.set k b).getD x false = endsF l to (e.getD to.toNat 0) ch 0 x := fun b hb => ⟨by simp [hI.1], fun x hx => by
      by_cases hxk : x = k
      · subst hxk; rw [getD_set hks]; exact hb
      · rw [getD_set_ne hxk]; exact hI.2 x (by omega)⟩
    show ∃ s', _ ∧ impl_Travel_L8 n kx (fun t130 ends131 => J (t130, ends131)) to l (l.length : Int) (k : Int) l fr at_ ch e [s] = J (((k + 1 : Nat) : Int), [s'])
    unfold impl_Travel_L8 impl_Travel_k0
    rw [decide_eq_true (show (k : Int) < (l.length : Int) by omega), cond_true, ix_nat hk, Int.toNat_natCast, bd_eq, ix_of (Int.le_refl _) (by simp), chk_dec h1]
    by_cases hto : (l.getD k dSLeg).To = to
    · rw [decide_eq_true hto, cond_true, ix_of ht.1 (by rw [he]; omega), chk_dec (by rw [he]; omega), chk_dec h1]
      show ∃ s', _ ∧ (ix (k : Int) s.length (chk (decide (0 < [s].length)) (chk (decide ((k : Int).toNat < s.length)) (bd ([s].set 0 (s.set (k : Int).toNat (decide ((l.getD k dSLeg).Comes = e.getD to.toNat 0)))) fun (l22 : List (List Bool)) => J (w64 ((k : Int) + (1 : Int)), l22))))) = _
      rw [ix_nat hks, chk_dec h1, Int.toNat_natCast, chk_dec hks, bd_eq, e1]
      exact ⟨s.set k _, hset _ (by unfold endsF; rw [decide_eq_true hto, Bool.true_and]), rfl⟩
    · rw [decide_eq_false hto, cond_false, chk_dec h1]
      show ∃ s', _ ∧ (ix (k : Int) s.length (chk (decide (0 < [s].length)) (chk (decide ((k : Int).toNat < s.length)) (bd ([s].set 0 (s.set (k : Int).toNat false)) fun (l25 : List (List Bool)) => J (w64 ((k : Int) + (1 : Int)), l25))))) = _
      rw [ix_nat hks, chk_dec h1, Int.toNat_natCast, chk_dec hks, bd_eq, e1]
      exact ⟨s.set k _, hset _ (by unfold endsF; rw [decide_eq_false hto, Bool.false_and]), rfl⟩
  · show impl_Travel_L8 n kx (fun t130 ends131 => J (t130, ends131)) to l (l.length : Int) (l.length : Int) l fr at_ ch e [s] = _
    unfold impl_Travel_L8
    rw [decide_eq_false (by omega), cond_false, row_ext hI.1 hI.2]
    rfl
theorem travel_impl {n : Nat} (l : List SLeg) (fr to at_ ch : Int) (hl : l.length ≤ 1048576) (hn : 1000000000 < n) :
    (earlOk l fr at_ ch && decide (0 ≤ to ∧ to ≤ 19)) = false ∧ impl_Travel n l fr to at_ ch = some ([], false) ∨ (earlOk l fr at_ ch && decide (0 ≤ to ∧ to ≤ 19)) = true ∧ ∃ e, EarlIs l fr at_ ch e ∧ impl_Travel n l fr to at_ ch = travelR l fr to at_ ch e := by
  unfold impl_Travel
  rcases earl_impl l fr at_ ch hl hn with ⟨h1, h2⟩ | ⟨h1, e, h2, h3⟩
  · left
    rw [h1, h2]
    exact ⟨rfl, rfl⟩
  · rw [h1, h2, Option.bind_some, port_impl]
    by_cases ht : 0 ≤ to ∧ to ≤ 19
    · right
      refine ⟨by simp [ht], e, h3, ?_⟩
      obtain ⟨g1, g2, g3, g4⟩ := earlOk_is h1
      obtain ⟨hlen, hb⟩ := legs_at g1
      simp only [ht, and_self, decide_true, Bool.not_true, cond_false, Option.bind_some]
      rw [ix_of ht.1 (by rw [h3.len]; omega), chk_dec (by rw [h3.len]; omega)]
      unfold travelR
      cases decide (e.getD to.toNat 0 < 0) with
      | true => rfl
      | false =>
        cases decide (fr = to) with
        | true => rfl
        | false =>
          simp only [cond_false]
          unfold impl_Travel_k5
          rw [chk_dec (by omega), chk_dec (by omega), chk_dec (by omega), row_first _ hb hlen h3.len ht hn]
          exact ways_impl hb hlen g4 hn
    · left
      exact ⟨by simp [ht], by simp [ht]⟩
end Go.Sm
end

section
set_option linter.unusedSimpArgs false
set_option linter.deprecated false
set_option linter.unusedSectionVars false
set_option linter.unusedVariables false
set_option linter.unusedSimpArgs false
namespace Go.Sm
attribute [local irreducible] bd chk ix loopN
/-! ### Draws -/
structure CurOk (c : Sl1Cur) : Prop where
  i : 0 ≤ c.i ∧ c.i ≤ (c.b.length : Int)
  len : c.b.length ≤ 1048576
theorem and255 (v : Int) : 0 ≤ w64 (((BitVec.ofInt 64 v &&& BitVec.ofInt 64 (255 : Int)).toNat : Nat) : Int) ∧ w64 (((BitVec.ofInt 64 v &&& BitVec.ofInt 64 (255 : Int)).toNat : Nat) : Int) ≤ 255 := by
  have h : (BitVec.ofInt 64 v &&& BitVec.ofInt 64 (255 : Int)).toNat ≤ 255 := by
    rw [BitVec.toNat_and]
    exact Nat.and_le_right
  rw [w64_id (by omega) (by omega)]
  omega
theorem byte_ok {n : Nat} {c : Sl1Cur} (h : CurOk c) : ∃ v c', spec_l1Byte n c = some (v, c') ∧ (0 ≤ v ∧ v ≤ 255) ∧ CurOk c' := by
  have h1 := h.i
  have h2 := h.len
  unfold spec_l1Byte
  simp only [bd_eq]
  by_cases hc : c.i < (c.b.length : Int)
  · rw [decide_eq_true hc, cond_true, ix_of h1.1 hc]
    refine ⟨_, _, rfl, and255 _, ⟨?_, h2⟩⟩
    show 0 ≤ w64 (c.i + 1) ∧ w64 (c.i + 1) ≤ (c.b.length : Int)
    rw [w64_id (by omega) (by omega)]
    omega
  · rw [decide_eq_false hc, cond_false]
    exact ⟨_, _, rfl, and255 _, ⟨h1, h2⟩⟩
theorem below_ok {n : Nat} {c : Sl1Cur} (h : CurOk c) {m : Int} (hm : 1 ≤ m ∧ m ≤ 256) : ∃ v c', spec_l1Below n c m = some (v, c') ∧ (0 ≤ v ∧ v < m) ∧ CurOk c' := by
  obtain ⟨v, c', h1, h2, h3⟩ := byte_ok (n := n) h
  unfold spec_l1Below
  rw [decide_eq_false (show ¬ m ≤ 0 by omega), cond_false, decide_eq_true (show m ≤ 256 by omega), cond_true, h1, Option.bind_some, decide_eq_false (show ¬ m = 0 by omega), cond_false]
  exact ⟨_, _, rfl, ⟨Int.tmod_nonneg _ h2.1, Int.tmod_lt_of_pos _ (by omega)⟩, h3⟩
theorem new_ok {n : Nat} (code : List Int) (hc : code.length ≤ 1048576) (hn : 1000000000 < n) : ∃ c, spec_l1New n code = some c ∧ CurOk c := by
  have hw : w64 ((59059 : Int) + (code.length : Int)) = 59059 + (code.length : Int) := w64_id (by omega) (by omega)
  unfold spec_l1New
  rw [bd_eq]
  have key : ∀ m k h fu, k + m = code.length → m < fu → ∃ c, loopN (fun (x : Int × Int) J' => spec_l1New_L3 n (fun h16 => some ((⟨code, (0 : Int), h16⟩ : Sl1Cur))) (fun h17 i18 => J' (h17, i18)) code x.1 x.2) fu (h, (k : Int)) = some c ∧ CurOk c := by
    intro m
    induction m with
    | zero =>
      intro k h fu hk hfu
      obtain ⟨f, rfl⟩ : ∃ f, fu = f + 1 := ⟨fu - 1, by omega⟩
      rw [loopN_succ]
      refine ⟨⟨code, 0, h⟩, ?_, ⟨by show (0 : Int) ≤ 0 ∧ (0 : Int) ≤ (code.length : Int); omega, hc⟩⟩
      show spec_l1New_L3 n _ _ code h (k : Int) = _
      unfold spec_l1New_L3
      rw [decide_eq_false (by omega), cond_false]
    | succ m ih =>
      intro k h fu hk hfu
      obtain ⟨f, rfl⟩ : ∃ f, fu = f + 1 := ⟨fu - 1, by omega⟩
      rw [loopN_succ]
      have hstep : ∀ J : Int → Int → Option Sl1Cur, ∃ h', spec_l1New_L3 n (fun h16 => some ((⟨code, (0 : Int), h16⟩ : Sl1Cur))) J code h (k : Int) = J h' ((k + 1 : Nat) : Int) ∨ spec_l1New_L3 n (fun h16 => some ((⟨code, (0 : Int), h16⟩ : Sl1Cur))) J code h (k : Int) = some ⟨code, 0, h⟩ := by
        intro J
        unfold spec_l1New_L3 spec_l1New_k0
        rw [decide_eq_true (show (k : Int) < (code.length : Int) by omega), cond_true]
        cases decide ((k : Int) < 4000) with
        | true =>
          rw [cond_true, ix_nat (by omega), bd_eq, bd_eq, w64_succ (show k < 9223372036854775807 by omega)]
          exact ⟨_, .inl rfl⟩
        | false => exact ⟨0, .inr rfl⟩
      obtain ⟨h', e | e⟩ := hstep (fun h17 i18 => loopN (fun (x : Int × Int) J' => spec_l1New_L3 n (fun h16 => some ((⟨code, (0 : Int), h16⟩ : Sl1Cur))) (fun h17 i18 => J' (h17, i18)) code x.1 x.2) f (h17, i18))
      · obtain ⟨c, g1, g2⟩ := ih (k + 1) h' f (by omega) (by omega)
        exact ⟨c, e.trans g1, g2⟩
      · exact ⟨⟨code, 0, h⟩, e, ⟨by show (0 : Int) ≤ 0 ∧ (0 : Int) ≤ (code.length : Int); omega, hc⟩⟩
  exact key code.length 0 _ n (by omega) (by omega)
end Go.Sm
end

section
set_option linter.unusedSimpArgs false
set_option linter.deprecated false
set_option linter.unusedSectionVars false
set_option linter.unusedVariables false
set_option linter.unusedSimpArgs false
namespace Go.Sm
attribute [local irreducible] bd chk ix loopN
/-! ### Drawn legs -/
theorem lastS_app (l : List SLeg) (x : SLeg) (s : Int) : lastS (l ++ [x]) s = if x.Service = s then some x else lastS l s := by
  unfold lastS
  rw [List.reverse_append]
  by_cases h : x.Service = s <;> simp [List.find?_cons, h]
theorem legOk_app {l : List SLeg} {x : SLeg} {k : Nat} (hk : k < l.length) : legOk (l ++ [x]) k = legOk l k := by
  have h1 : (l ++ [x]).getD k dSLeg = l.getD k dSLeg := by rw [getD_eq (by simp; omega), getD_eq hk, List.getElem_append_left hk]
  have h2 : (l ++ [x]).take k = l.take k := by rw [List.take_append_of_le_length (by omega)]
  unfold legOk
  rw [h1, h2]
theorem legOk_last {l : List SLeg} {x : SLeg} : legOk (l ++ [x]) l.length = (legBase x && legJoin (lastS l x.Service) x) := by
  have h1 : (l ++ [x]).getD l.length dSLeg = x := by simp [List.getD_eq_getElem?_getD]
  have h2 : (l ++ [x]).take l.length = l := by simp
  unfold legOk
  rw [h1, h2]
structure DrI (s port a : Int) (out : List SLeg) : Prop where
  ok : ∀ k, k < out.length → legOk out k = true
  sv : ∀ x ∈ out, s ≤ x.Service
  last : ∀ q, lastS out s = some q → q.To = port ∧ q.Comes = a
theorem tmod_next {p r m : Int} (hm : 3 ≤ m ∧ m ≤ 5) (hp : 0 ≤ p ∧ p < m) (hr : 0 ≤ r ∧ r < m - 1) : 0 ≤ Int.tmod (p + 1 + r) m ∧ Int.tmod (p + 1 + r) m < m ∧ Int.tmod (p + 1 + r) m ≠ p := by
  rw [Int.tmod_eq_emod_of_nonneg (by omega)]
  have : m = 3 ∨ m = 4 ∨ m = 5 := by omega
  rcases this with rfl | rfl | rfl <;> omega
theorem draw_leg {R : Type} {n : Nat} (kx : Sl1Cur → List SLeg → Option R) (J : Int → Int → Int → Sl1Cur → List SLeg → Option R) {ports s port a i : Int} {c : Sl1Cur} {out : List SLeg} (hm : 3 ≤ ports ∧ ports ≤ 5) (hs : 1 ≤ s ∧ s ≤ 4) (hp : 0 ≤ port ∧ port < ports) (ha : 0 ≤ a ∧ a ≤ 10000) (hi : 0 < i ∧ i ≤ 10) (hc : CurOk c) (hd : DrI s port a out) (ho : out.length ≤ 100) :
    ∃ port' a' c' x, spec_l22Draw_L8 n kx J ports s port a i c out = J port' a' (i - 1) c' (out ++ [x]) ∧ (0 ≤ port' ∧ port' < ports) ∧ (0 ≤ a' ∧ a' ≤ a + 100) ∧ CurOk c' ∧ DrI s port' a' (out ++ [x]) := by
  unfold spec_l22Draw_L8 spec_l22Draw_k0
  rw [decide_eq_true (show i > 0 by omega), cond_true, bd_eq, bd_eq]
  have e1 : w64 (port + 1) = port + 1 := w64_id (by omega) (by omega)
  have e2 : w64 (ports - 1) = ports - 1 := w64_id (by omega) (by omega)
  obtain ⟨r1, c1, h1, b1, g1⟩ := below_ok (n := n) hc (m := ports - 1) (by omega)
  obtain ⟨r2, c2, h2, b2, g2⟩ := below_ok (n := n) g1 (m := 20) (by omega)
  obtain ⟨r3, c3, h3, b3, g3⟩ := below_ok (n := n) g2 (m := 20) (by omega)
  obtain ⟨r4, c4, h4, b4, g4⟩ := below_ok (n := n) g3 (m := 30) (by omega)
  have e3 : w64 (port + 1 + r1) = port + 1 + r1 := w64_id (by omega) (by omega)
  have e4 : w64 (a + r2) = a + r2 := w64_id (by omega) (by omega)
  have e5 : w64 (a + r2 + 1) = a + r2 + 1 := w64_id (by omega) (by omega)
  have e6 : w64 (a + r2 + 1 + r4) = a + r2 + 1 + r4 := w64_id (by omega) (by omega)
  have e7 : w64 (i - 1) = i - 1 := w64_id (by omega) (by omega)
  obtain ⟨t1, t2, t3⟩ := tmod_next hm hp b1
  rw [e1, e2, h1, Option.bind_some, decide_eq_false (show ¬ ports = 0 by omega), cond_false, bd_eq, e3, h2, Option.bind_some, h3, Option.bind_some, e4, e5, bd_eq, h4, Option.bind_some, e6, bd_eq, chk_dec (by simp; omega), e7]
  refine ⟨_, _, _, _, rfl, ⟨t1, t2⟩, by omega, g4, ⟨fun k hk => ?_, fun x hx => ?_, fun q hq => ?_⟩⟩
  · by_cases hkl : k < out.length
    · rw [legOk_app hkl]; exact hd.ok k hkl
    · have : k = out.length := by simp at hk; omega
      subst this
      rw [legOk_last]
      have hb : legBase ⟨s, port, Int.tmod (port + 1 + r1) ports, a + r2, a + r2 + 1 + r4, r3⟩ = true := by
        simp only [legBase, Bool.and_eq_true, decide_eq_true_eq, Bool.not_eq_true', decide_eq_false_iff_not]
        exact ⟨by omega, by omega, by omega, fun h => t3 h.symm, by omega, by omega, by omega, by omega⟩
      rw [hb, Bool.true_and]
      show legJoin (lastS out s) _ = true
      cases hl : lastS out s with
      | none => rfl
      | some q =>
        obtain ⟨k1, k2⟩ := hd.last q hl
        show (decide (q.To = port) && !decide (q.Comes > a + r2)) = true
        rw [decide_eq_true k1, decide_eq_false (by omega)]; rfl
  · rcases List.mem_append.1 hx with hx | hx
    · exact hd.sv x hx
    · rw [List.mem_singleton.1 hx]; exact Int.le_refl _
  · rw [lastS_app, if_pos rfl] at hq
    cases hq
    exact ⟨rfl, rfl⟩
theorem draw_group {R : Type} {n : Nat} (kx : Sl1Cur → List SLeg → Option R) {ports s : Int} (hm : 3 ≤ ports ∧ ports ≤ 5) (hs : 1 ≤ s ∧ s ≤ 4) {Q : Option R → Prop} :
    ∀ (i : Nat) (port a : Int) (c : Sl1Cur) (out : List SLeg) (fuel : Nat), i < fuel → i ≤ 10 → (0 ≤ port ∧ port < ports) → (0 ≤ a ∧ a + 100 * (i : Int) ≤ 10000) → CurOk c → DrI s port a out → out.length + i ≤ 100 →
    (∀ c' out', CurOk c' → (∀ k, k < out'.length → legOk out' k = true) → (∀ x ∈ out', s ≤ x.Service) → out'.length = out.length + i → Q (kx c' out')) →
    Q (loopN (fun (x : Int × Int × Int × Sl1Cur × List SLeg) J' => spec_l22Draw_L8 n kx (fun port36 at37 i38 p39 out40 => J' (port36, at37, i38, p39, out40)) ports s x.1 x.2.1 x.2.2.1 x.2.2.2.1 x.2.2.2.2) fuel (port, a, (i : Int), c, out)) := by
  intro i
  induction i with
  | zero =>
    intro port a c out fuel hf hi hp ha hc hd ho hq
    obtain ⟨f, rfl⟩ : ∃ f, fuel = f + 1 := ⟨fuel - 1, by omega⟩
    rw [loopN_succ]
    show Q (spec_l22Draw_L8 n kx _ ports s port a 0 c out)
    unfold spec_l22Draw_L8
    rw [decide_eq_false (by omega), cond_false]
    exact hq c out hc hd.ok hd.sv rfl
  | succ i ih =>
    intro port a c out fuel hf hi hp ha hc hd ho hq
    obtain ⟨f, rfl⟩ : ∃ f, fuel = f + 1 := ⟨fuel - 1, by omega⟩
    rw [loopN_succ]
    obtain ⟨port', a', c', x, h1, h2, h3, h4, h5⟩ := draw_leg (n := n) kx (fun port36 at37 i38 p39 out40 => loopN (fun (x : Int × Int × Int × Sl1Cur × List SLeg) J' => spec_l22Draw_L8 n kx (fun port36 at37 i38 p39 out40 => J' (port36, at37, i38, p39, out40)) ports s x.1 x.2.1 x.2.2.1 x.2.2.2.1 x.2.2.2.2) f (port36, at37, i38, p39, out40)) (i := ((i + 1 : Nat) : Int)) hm hs hp (by omega) (by omega) hc hd (by omega)
    show Q (spec_l22Draw_L8 n kx _ ports s port a ((i + 1 : Nat) : Int) c out)
    rw [h1, show ((i + 1 : Nat) : Int) - 1 = (i : Int) by omega]
    exact ih port' a' c' (out ++ [x]) f (by omega) (by omega) h2 (by omega) h4 h5 (by simp; omega) fun c2 out2 q1 q2 q3 q4 => hq c2 out2 q1 q2 q3 (by rw [q4]; simp; omega)
theorem draw_legs {n : Nat} {c : Sl1Cur} (hc : CurOk c) (hn : 1000000000 < n) : ∃ l c', spec_l22Draw n c = some (l, c') ∧ legsOk l = true := by
  unfold spec_l22Draw
  obtain ⟨r1, c1, h1, b1, g1⟩ := below_ok (n := n) hc (m := 3) (by omega)
  obtain ⟨r2, c2, h2, b2, g2⟩ := below_ok (n := n) g1 (m := 4) (by omega)
  rw [h1, Option.bind_some, h2, Option.bind_some, w64_id (show -9223372036854775808 ≤ 3 + r1 by omega) (by omega), w64_id (show -9223372036854775808 ≤ 1 + r2 by omega) (by omega)]
  have key : ∀ (s : Nat) (c : Sl1Cur) (out : List SLeg) (fuel : Nat), s < fuel → s ≤ 4 → CurOk c → (∀ k, k < out.length → legOk out k = true) → (∀ x ∈ out, (s : Int) < x.Service) → out.length + 3 * s ≤ 12 →
      ∃ l c', loopN (fun (x : Int × Sl1Cur × List SLeg) J' => spec_l22Draw_L4 n (fun out41 p42 => some (out41, p42)) (fun s43 p44 out45 => J' (s43, p44, out45)) (3 + r1) x.1 x.2.1 x.2.2) fuel ((s : Int), c, out) = some (l, c') ∧ legsOk l = true := by
    intro s
    induction s with
    | zero =>
      intro c out fuel hf hs hc ho hv hlen
      obtain ⟨f, rfl⟩ : ∃ f, fuel = f + 1 := ⟨fuel - 1, by omega⟩
      rw [loopN_succ]
      refine ⟨out, c, rfl, ?_⟩
      simp only [legsOk, Bool.and_eq_true, decide_eq_true_eq, legsAll, List.all_eq_true, List.mem_range]
      exact ⟨by omega, ho⟩
    | succ s ih =>
      intro c out fuel hf hs hc ho hv hlen
      obtain ⟨f, rfl⟩ : ∃ f, fuel = f + 1 := ⟨fuel - 1, by omega⟩
      rw [loopN_succ]
      show ∃ l c', spec_l22Draw_L4 n _ _ (3 + r1) ((s + 1 : Nat) : Int) c out = some (l, c') ∧ _
      unfold spec_l22Draw_L4 spec_l22Draw_k1
      obtain ⟨q1, d1, k1, a1, u1⟩ := below_ok (n := n) hc (m := 3 + r1) (by omega)
      obtain ⟨q2, d2, k2, a2, u2⟩ := below_ok (n := n) u1 (m := 40) (by omega)
      obtain ⟨q3, d3, k3, a3, u3⟩ := below_ok (n := n) u2 (m := 4) (by omega)
      rw [decide_eq_true (show ((s + 1 : Nat) : Int) > 0 by omega), cond_true, k1, Option.bind_some, k2, Option.bind_some, k3, Option.bind_some]
      have e3 : ((q3.toNat : Nat) : Int) = q3 := by omega
      rw [← e3]
      have hd : DrI ((s + 1 : Nat) : Int) q1 q2 out := ⟨ho, fun x hx => Int.le_of_lt (hv x hx), fun q hq => by
        exfalso
        unfold lastS at hq
        have h5 := List.find?_some hq
        have h6 := List.mem_of_find?_eq_some hq
        rw [List.mem_reverse] at h6
        have := hv q h6
        simp only [decide_eq_true_eq] at h5
        omega⟩
      refine draw_group (n := n) _ (by omega) (by omega) (Q := fun r => ∃ l c', r = some (l, c') ∧ legsOk l = true) q3.toNat q1 q2 d3 out n (by omega) (by omega) a1 (by omega) u3 hd (by omega) fun c' out' z1 z2 z3 z4 => ?_
      rw [w64_id (show -9223372036854775808 ≤ ((s + 1 : Nat) : Int) - 1 by omega) (by omega), show ((s + 1 : Nat) : Int) - 1 = (s : Int) by omega]
      exact ih c' out' f (by omega) (by omega) z1 z2 (fun x hx => by have := z3 x hx; omega) (by omega)
  have e : 1 + r2 = ((r2.toNat + 1 : Nat) : Int) := by omega
  rw [e]
  exact key (r2.toNat + 1) c2 [] n (by omega) (by omega) g2 (fun k hk => absurd hk (Nat.not_lt_zero _)) (fun x hx => by cases hx) (by simp; omega)
end Go.Sm
end

section
set_option linter.unusedSimpArgs false
set_option linter.deprecated false
set_option linter.unusedSectionVars false
set_option linter.unusedVariables false
set_option linter.unusedSimpArgs false
namespace Go.Sm
attribute [local irreducible] bd chk ix loopN
/-! ### A way is there -/
/-- i is k legs behind j. -/
inductive Chn (l : List SLeg) (ch : Int) : Nat → Nat → Nat → Prop
  | nil {j : Nat} : j < l.length → Chn l ch 0 j j
  | snoc {k j i x : Nat} : Chn l ch k j i → x < l.length → lgo ch (l.getD i dSLeg) (l.getD x dSLeg) = true → Chn l ch (k + 1) j x
theorem Chn.lt1 {l : List SLeg} {ch : Int} {k j i : Nat} (h : Chn l ch k j i) : j < l.length := by induction h <;> assumption
theorem Chn.lt2 {l : List SLeg} {ch : Int} {k j i : Nat} (h : Chn l ch k j i) : i < l.length := by cases h <;> assumption
theorem endsF_pre {l : List SLeg} {to when ch : Int} {k i x : Nat} (hx : x < l.length) (hg : lgo ch (l.getD i dSLeg) (l.getD x dSLeg) = true) (h : endsF l to when ch k x = true) : endsF l to when ch (k + 1) i = true := by
  unfold endsF
  exact List.any_eq_true.2 ⟨x, List.mem_range.2 hx, by rw [h, hg]; rfl⟩
theorem Chn.ends {l : List SLeg} {to when ch : Int} {k j i : Nat} (h : Chn l ch k j i) : ∀ m, endsF l to when ch m i = true → endsF l to when ch (k + m) j = true := by
  induction h with
  | nil _ => intro m h; rw [Nat.zero_add]; exact h
  | @snoc k j i x h1 h2 h3 ih =>
    intro m hm
    have := ih (m + 1) (endsF_pre h2 h3 hm)
    rw [show k + 1 + m = k + (m + 1) by omega]
    exact this
/-- How many legs leave no later. -/
def cntL (l : List SLeg) (i : Nat) : Nat := (List.range l.length).countP fun j => decide ((l.getD j dSLeg).Leaves ≤ (l.getD i dSLeg).Leaves)
theorem countP_lt {p q : Nat → Bool} {m x : Nat} (hx : x < m) (hq : q x = true) (hp : p x = false) (h : ∀ j, j < m → p j = true → q j = true) : (List.range m).countP p < (List.range m).countP q := by
  induction m with
  | zero => omega
  | succ m ih =>
    rw [List.range_succ, List.countP_append, List.countP_append, List.countP_singleton, List.countP_singleton]
    by_cases hxm : x = m
    · subst hxm
      have h1 : (List.range x).countP p ≤ (List.range x).countP q := List.countP_mono_left fun j hj hpj => h j (by have := List.mem_range.1 hj; omega) hpj
      rw [hp, hq]
      simp only [Bool.false_eq_true, if_false, if_true]
      omega
    · have h1 := ih (by omega) fun j hj => h j (by omega)
      have h2 : (if p m = true then 1 else 0) ≤ (if q m = true then 1 else 0) := by
        by_cases hpm : p m = true
        · rw [if_pos hpm, if_pos (h m (by omega) hpm)]; exact Nat.le_refl _
        · rw [if_neg hpm]; exact Nat.zero_le _
      omega
theorem reach_chain {l : List SLeg} (hl : ∀ k, k < l.length → LegB (l.getD k dSLeg)) {fr at_ ch : Int} (hc : 0 ≤ ch) {i : Nat} (h : Rch l fr at_ ch i) : ∃ k j, Chn l ch k j i ∧ mayS l fr at_ 0 ch j = true ∧ k + 1 ≤ cntL l i := by
  induction h with
  | @start j h1 h2 =>
    refine ⟨0, j, .nil h1, ?_, ?_⟩
    · simp only [lst, Bool.and_eq_true, decide_eq_true_eq] at h2
      simp only [mayS, true_or, if_true, Int.add_zero, Bool.and_eq_true, decide_eq_true_eq]
      exact h2
    · unfold cntL
      exact List.countP_pos_iff.2 ⟨j, List.mem_range.2 h1, by simp⟩
  | @step i j h1 h2 h3 ih =>
    obtain ⟨k, j0, g1, g2, g3⟩ := ih
    refine ⟨k + 1, j0, .snoc g1 h2 h3, g2, ?_⟩
    have hlt := lgo_lt hl hc h1.lt h3
    have : cntL l i < cntL l j := countP_lt h2 (by simp) (decide_eq_false (by omega)) fun x _ hx => by
      simp only [decide_eq_true_eq] at hx ⊢
      omega
    omega
theorem way_there {l : List SLeg} (hl : ∀ k, k < l.length → LegB (l.getD k dSLeg)) {fr to at_ ch when : Int} (hc : 0 ≤ ch) {i : Nat} (h : Rch l fr at_ ch i) (ht : (l.getD i dSLeg).To = to) (hw : (l.getD i dSLeg).Comes = when) :
    ∃ k, k < l.length ∧ ((List.range l.length).any fun j => mayS l fr at_ 0 ch j && endsF l to when ch k j) = true := by
  obtain ⟨k, j, h1, h2, h3⟩ := reach_chain hl hc h
  have hcnt : cntL l i ≤ l.length := by
    unfold cntL
    refine Nat.le_trans List.countP_le_length ?_
    simp
  refine ⟨k, by omega, List.any_eq_true.2 ⟨j, List.mem_range.2 h1.lt1, ?_⟩⟩
  have := h1.ends (to := to) (when := when) 0 (by unfold endsF; rw [decide_eq_true ht, decide_eq_true hw]; rfl)
  rw [h2, show k = k + 0 from rfl, this]; rfl
/-- A way that is right: it leaves, waits and comes as told. -/
def goesOk (l : List SLeg) (ch : Int) : Int → Int → Int → List Int → Option (Int × Int)
  | port, now, service, [] => some (port, now)
  | port, now, service, k :: r => if (l.getD k.toNat dSLeg).From = port ∧ now ≤ (l.getD k.toNat dSLeg).Leaves ∧ (service = 0 ∨ service = (l.getD k.toNat dSLeg).Service ∨ now + ch ≤ (l.getD k.toNat dSLeg).Leaves) then goesOk l ch (l.getD k.toNat dSLeg).To (l.getD k.toNat dSLeg).Comes (l.getD k.toNat dSLeg).Service r else none
theorem greL_goes {l : List SLeg} (hl : ∀ k, k < l.length → LegB (l.getD k dSLeg)) {to when ch : Int} (hc : 0 ≤ ch) : ∀ (k : Nat) (port at_ service : Int), ((List.range l.length).any fun j => mayS l port at_ service ch j && endsF l to when ch k j) = true →
    goesOk l ch port at_ service (greL l to when ch k (mayS l port at_ service ch)) = some (to, when) ∧ ∀ x ∈ greL l to when ch k (mayS l port at_ service ch), 0 ≤ x ∧ x < (l.length : Int) := by
  intro k
  induction k with
  | zero =>
    intro port at_ service h
    obtain ⟨j, h1, h2, h3⟩ := find_any h
    rw [greL_one h1]
    simp only [Bool.and_eq_true, mayS, endsF, decide_eq_true_eq] at h3
    obtain ⟨⟨a1, a2⟩, a3, a4⟩ := h3
    refine ⟨?_, fun x hx => by rw [List.mem_singleton.1 hx]; omega⟩
    unfold goesOk
    rw [Int.toNat_natCast, if_pos]
    · unfold goesOk; rw [a3, a4]
    · refine ⟨a1, ?_, ?_⟩ <;> split at a2 <;> omega
  | succ k ih =>
    intro port at_ service h
    obtain ⟨j, h1, h2, h3⟩ := find_any h
    rw [greL_some h1]
    simp only [Bool.and_eq_true] at h3
    obtain ⟨a1, a2⟩ := h3
    have hB := hl j h2
    have h4 : ((List.range l.length).any fun x => mayS l (l.getD j dSLeg).To (l.getD j dSLeg).Comes (l.getD j dSLeg).Service ch x && endsF l to when ch k x) = true := by
      rw [mayS_leg hB, any_comm2]; exact a2
    obtain ⟨g1, g2⟩ := ih _ _ _ h4
    rw [mayS_leg hB] at g1 g2
    refine ⟨?_, fun x hx => ?_⟩
    · unfold goesOk
      rw [Int.toNat_natCast, if_pos]
      · exact g1
      · simp only [mayS, Bool.and_eq_true, decide_eq_true_eq] at a1
        refine ⟨a1.1, ?_, ?_⟩ <;> have a2 := a1.2 <;> split at a2 <;> omega
    · rcases List.mem_cons.1 hx with rfl | hx
      · omega
      · exact g2 x hx
theorem goes_loop {n : Nat} {l : List SLeg} (hl : ∀ k, k < l.length → LegB (l.getD k dSLeg)) {to ch : Int} (hc : 0 ≤ ch ∧ ch ≤ 10000) (soon : List Int) (kx : Int → Int → Option Bool) (kr : Bool → Option Bool) (way : List Int) (hw : ∀ x ∈ way, 0 ≤ x ∧ x < (l.length : Int)) (hwl : way.length ≤ 1000) :
    ∀ (m k : Nat) (port now service : Int) (fuel : Nat) (r : Int × Int), k + m = way.length → m < fuel → (0 ≤ now ∧ now ≤ 100000000) → goesOk l ch port now service (way.drop k) = some r →
      loopN (fun (x : Int × Int × Int × Int) J' => laws_FnTravel_L21 n kx kr (fun port164 now165 service166 i167 => J' (port164, now165, service166, i167)) to ch x.1 x.2.1 x.2.2.1 x.2.2.2 l soon way) fuel (port, now, service, (k : Int)) = kx r.1 r.2 := by
  intro m
  induction m with
  | zero =>
    intro k port now service fuel r hk hf hnow hg
    obtain ⟨f, rfl⟩ : ∃ f, fuel = f + 1 := ⟨fuel - 1, by omega⟩
    rw [loopN_succ]
    show laws_FnTravel_L21 n kx kr _ to ch port now service (k : Int) l soon way = _
    unfold laws_FnTravel_L21
    rw [decide_eq_false (by omega), cond_false]
    rw [List.drop_of_length_le (by omega)] at hg
    cases hg
    rfl
  | succ m ih =>
    intro k port now service fuel r hk hf hnow hg
    obtain ⟨f, rfl⟩ : ∃ f, fuel = f + 1 := ⟨fuel - 1, by omega⟩
    rw [loopN_succ]
    have hkw : k < way.length := by omega
    have hx := hw _ (getD_mem (d := 0) hkw)
    rw [drop_getD (d := 0) hkw] at hg
    have hx2 : (way.getD k 0).toNat < l.length := by omega
    have hB := hl _ hx2
    have e : w64 ((k : Int) + 1) = ((k + 1 : Nat) : Int) := w64_succ (by omega)
    have e2 : w64 (now + ch) = now + ch := w64_id (by omega) (by omega)
    unfold goesOk at hg
    split at hg
    · rename_i hh
      have ihm := ih (k + 1) _ _ _ f r (by omega) (by omega) hB.c hg
      show laws_FnTravel_L21 n kx kr _ to ch port now service (k : Int) l soon way = _
      unfold laws_FnTravel_L21 laws_FnTravel_k1
      rw [decide_eq_true (show (k : Int) < (way.length : Int) by omega), cond_true, ix_nat hkw, Int.toNat_natCast, chk_dec hkw, ix_of hx.1 hx.2, chk_dec hx2, bd_eq, decide_eq_true hh.1, Bool.not_true, cond_false, decide_eq_false (by omega), cond_false, e2, e]
      by_cases h0 : service = 0
      · rw [decide_eq_true h0, Bool.not_true, cond_false]; exact ihm
      · rw [decide_eq_false h0, Bool.not_false, cond_true]
        by_cases hs : service = (l.getD (way.getD k 0).toNat dSLeg).Service
        · rw [decide_eq_true hs, Bool.not_true, cond_false]; exact ihm
        · rw [decide_eq_false hs, Bool.not_false, cond_true, bd_eq, decide_eq_false (by have := hh.2.2; omega), cond_false]; exact ihm
    · cases hg
end Go.Sm
end

section
set_option linter.unusedSimpArgs false
set_option linter.deprecated false
set_option linter.unusedSectionVars false
set_option linter.unusedVariables false
set_option linter.unusedSimpArgs false
namespace Go.Sm
attribute [local irreducible] bd chk ix loopN
theorem at_okB {n : Nat} (code : List Int) (hc : code.length ≤ 1048576) (hr : ∀ y ∈ code, rng 0 255 y) {i : Int} (hi : 0 ≤ i ∧ i ≤ 100) : ∃ v, laws_at n code i = some v ∧ 0 ≤ v ∧ v ≤ 255 := by
  unfold laws_at
  by_cases h : i < (code.length : Int)
  · rw [decide_eq_true h, cond_true, ix_of hi.1 h]
    have := hr _ (getD_mem (l := code) (d := 0) (show i.toNat < code.length by omega))
    unfold rng at this
    exact ⟨_, rfl, by rw [w64_id (by omega) (by omega)]; exact this⟩
  · rw [decide_eq_false h, cond_false, bd_eq, bd_eq, w64_id (x := i * 7) (by omega) (by omega), w64_id (by omega) (by omega)]
    exact ⟨_, rfl, Int.tmod_nonneg _ (by omega), by have := Int.tmod_lt_of_pos (i * 7 + (code.length : Int)) (show (0 : Int) < 256 by omega); omega⟩
/-! ### Good updates on a chart in order -/
theorem scan_cases {R : Type} {f : Nat → Option (Option R)} {z : Option R} : ∀ m k, (scanK f z m k = z ∧ ∀ j, k ≤ j → j < k + m → f j = none) ∨ ∃ j r, k ≤ j ∧ j < k + m ∧ f j = some r ∧ scanK f z m k = r
  | 0, k => .inl ⟨rfl, fun j h1 h2 => by omega⟩
  | m + 1, k => by
    unfold scanK
    cases h : f k with
    | some r => exact .inr ⟨k, r, Nat.le_refl _, by omega, h, rfl⟩
    | none =>
      rcases scan_cases (f := f) (z := z) m (k + 1) with ⟨h1, h2⟩ | ⟨j, r, h1, h2, h3, h4⟩
      · refine .inl ⟨h1, fun j a b => ?_⟩
        by_cases e : j = k
        · subst e; exact h
        · exact h2 j (by omega) (by omega)
      · exact .inr ⟨j, r, by omega, by omega, h3, h4⟩
theorem Rch.sooner {l : List SLeg} {fr a b ch : Int} (hab : a ≤ b) {i : Nat} (h : Rch l fr b ch i) : Rch l fr a ch i := by
  induction h with
  | start h1 h2 =>
    simp only [lst, Bool.and_eq_true, decide_eq_true_eq] at h2
    exact .start h1 (by simp only [lst, Bool.and_eq_true, decide_eq_true_eq]; exact ⟨h2.1, by omega⟩)
  | step _ h2 h3 ih => exact .step ih h2 h3
theorem late_facts {l : List SLeg} (hl : ∀ k, k < l.length → LegB (l.getD k dSLeg)) {fr a ch : Int} (hf : 0 ≤ fr) (ha : 0 ≤ a) (hc : 0 ≤ ch) {e e2 : List Int} (h : EarlIs l fr a ch e) (h2 : EarlIs l fr (a + 5) ch e2) {p : Nat} (hp : p < 20) :
    (e.getD p 0 ≥ 0 → a ≤ e.getD p 0) ∧ (e.getD p 0 < 0 → e2.getD p 0 < 0) ∧ (e.getD p 0 ≥ 0 → e2.getD p 0 ≥ 0 → e.getD p 0 ≤ e2.getD p 0) := by
  by_cases hpf : (p : Int) = fr
  · have e1 := h.at0
    have e3 := h2.at0
    rw [← hpf, Int.toNat_natCast] at e1 e3
    rw [e1, e3]
    omega
  · have b1 := h.best p hp hpf
    have b2 := h2.best p hp hpf
    rcases b1 with ⟨b0, b1⟩ | ⟨i, i1, i2, i3, i4, i5⟩
    · rcases b2 with ⟨b3, b4⟩ | ⟨j, j1, j2, j3, j4, j5⟩
      · omega
      · exact absurd j3 (b1 j j1 (j2.sooner (by omega)))
    · have h1 := i2.late hl hc
      have h3 := (hl i i1).lt
      have h4 := (hl i i1).c
      refine ⟨by omega, by omega, fun _ hb => ?_⟩
      rcases b2 with ⟨b3, b4⟩ | ⟨j, j1, j2, j3, j4, j5⟩
      · omega
      · have := i5 j j1 (j2.sooner (by omega)) j3
        omega
theorem turn_law {n : Nat} {kx : Option Bool} {kr : Bool → Option Bool} (J : Int → Option Bool) {fr to a ch : Int} {l : List SLeg} {e e2 : List Int} (h1 : e.length = 20) (h2 : e2.length = 20) {p : Nat} (hp : p < 20)
    (hA : e.getD p 0 ≥ 0 → a ≤ e.getD p 0) (hB : e.getD p 0 < 0 → e2.getD p 0 < 0) (hC : e.getD p 0 ≥ 0 → e2.getD p 0 ≥ 0 → e.getD p 0 ≤ e2.getD p 0) :
    laws_FnTravel_L12 n kx kr J fr to a ch (p : Int) l e e2 = J ((p + 1 : Nat) : Int) := by
  have hpe : p < e.length := by omega
  have hpl : p < e2.length := by omega
  have ee : w64 ((p : Int) + 1) = ((p + 1 : Nat) : Int) := w64_succ (by omega)
  unfold laws_FnTravel_L12 laws_FnTravel_k0
  rw [decide_eq_true (show (p : Int) < (e.length : Int) by omega), cond_true]
  simp only [ix_nat hpe, ix_nat hpl, Int.toNat_natCast, chk_dec hpe, chk_dec hpl, ee]
  by_cases c1 : e.getD p 0 ≥ 0
  · have d1 := hA c1
    rw [decide_eq_true c1, decide_eq_false (show ¬ e.getD p 0 < a by omega), decide_eq_false (show ¬ e.getD p 0 < 0 by omega)]
    simp only [cond_true, cond_false]
    by_cases c2 : e2.getD p 0 ≥ 0
    · rw [decide_eq_true c2, decide_eq_false (show ¬ e2.getD p 0 < e.getD p 0 by have := hC c1 c2; omega)]
      rfl
    · rw [decide_eq_false c2]; rfl
  · have d1 := hB (by omega)
    rw [decide_eq_false c1, decide_eq_true (show e.getD p 0 < 0 by omega), decide_eq_false (show ¬ e2.getD p 0 ≥ 0 by omega)]
    rfl
theorem laws_FnTravel_true (code0 : List Int) (h0 : (code0.length ≤ 9223372036854775807 ∧ ∀ y ∈ code0, rng 0 255 y)) : ∃ n, laws_FnTravel n code0 = some true := by
  refine ⟨1000000001, ?_⟩
  generalize hN : (1000000001 : Nat) = n
  have hn : 1000000000 < n := by omega
  unfold laws_FnTravel laws_big
  rw [Option.bind_some]
  by_cases hbig : (code0.length : Int) > 1048576
  · rw [decide_eq_true hbig]; rfl
  rw [decide_eq_false hbig, cond_false]
  have hcl : code0.length ≤ 1048576 := by omega
  obtain ⟨c, hc1, hc2⟩ := new_ok (n := n) code0 hcl hn
  obtain ⟨l, c', hd1, hd2⟩ := draw_legs (n := n) hc2 hn
  obtain ⟨v1, a1, b1⟩ := at_okB (n := n) code0 hcl h0.2 (i := 1) (by omega)
  obtain ⟨v2, a2, b2⟩ := at_okB (n := n) code0 hcl h0.2 (i := 2) (by omega)
  obtain ⟨v3, a3, b3⟩ := at_okB (n := n) code0 hcl h0.2 (i := 3) (by omega)
  obtain ⟨v4, a4, b4⟩ := at_okB (n := n) code0 hcl h0.2 (i := 4) (by omega)
  unfold laws_FnTravel_k5 spec_DrawLegs
  rw [hc1, Option.bind_some, hd1, Option.bind_some, Option.bind_some, a1, Option.bind_some, a2, Option.bind_some, a3, Option.bind_some, a4, Option.bind_some]
  have f1 : 0 ≤ Int.tmod v1 6 ∧ Int.tmod v1 6 < 6 := ⟨Int.tmod_nonneg _ b1.1, Int.tmod_lt_of_pos _ (by omega)⟩
  have f2 : 0 ≤ Int.tmod v2 6 ∧ Int.tmod v2 6 < 6 := ⟨Int.tmod_nonneg _ b2.1, Int.tmod_lt_of_pos _ (by omega)⟩
  have f3 : 0 ≤ Int.tmod v3 40 ∧ Int.tmod v3 40 < 40 := ⟨Int.tmod_nonneg _ b3.1, Int.tmod_lt_of_pos _ (by omega)⟩
  have f4 : 0 ≤ Int.tmod v4 12 ∧ Int.tmod v4 12 < 12 := ⟨Int.tmod_nonneg _ b4.1, Int.tmod_lt_of_pos _ (by omega)⟩
  generalize Int.tmod v1 6 = fr at *
  generalize Int.tmod v2 6 = to at *
  generalize Int.tmod v3 40 = a at *
  generalize Int.tmod v4 12 = ch at *
  obtain ⟨hlen, hb⟩ := legs_at hd2
  have hll : l.length ≤ 1048576 := by omega
  have ho : ∀ x, 0 ≤ x → x ≤ 100 → earlOk l fr x ch = true := fun x h1 h2 => by
    unfold earlOk
    rw [hd2, decide_eq_true (show 0 ≤ fr ∧ fr ≤ 19 by omega), decide_eq_true (show 0 ≤ x ∧ x ≤ 100000000 by omega), decide_eq_true (show 0 ≤ ch ∧ ch ≤ 10000 by omega)]; rfl
  rcases earl_impl (n := n) l fr a ch hll hn with ⟨q1, _⟩ | ⟨_, e, q2, q3⟩
  · rw [ho a (by omega) (by omega)] at q1; cases q1
  rcases earl_impl (n := n) l fr (a + 5) ch hll hn with ⟨q4, _⟩ | ⟨_, e2, q5, q6⟩
  · rw [ho (a + 5) (by omega) (by omega)] at q4; cases q4
  have hfe : fr.toNat < e.length := by rw [q3.len]; omega
  have e5 : w64 (a + 5) = a + 5 := w64_id (by omega) (by omega)
  rw [q2, Option.bind_some, legs_impl l hll hn, Option.bind_some, hd2]
  simp only [Bool.not_true, cond_false]
  rw [decide_eq_true (show (e.length : Int) = 20 by rw [q3.len]; rfl), Bool.not_true, cond_false, ix_of f1.1 (by rw [q3.len]; omega), chk_dec hfe, q3.at0, decide_eq_true rfl, Bool.not_true]
  unfold laws_FnTravel_k4
  rw [cond_false, bd_eq, e5, q5, Option.bind_some, decide_eq_true (show (e2.length : Int) = (e.length : Int) by rw [q3.len, q6.len]), Bool.not_true, cond_false]
  unfold laws_FnTravel_k3
  rw [loop_all (len := 20) (p := fun _ => true) (no := some false) (yes := some true) (by omega) (fun k J hk _ => ?_) (fun J _ => ?_) (by omega)]
  · rw [show (List.range 20).all (fun _ => true) = true from by decide]; rfl
  · obtain ⟨g1, g2, g3⟩ := late_facts hb f1.1 f3.1 f4.1 q3 q6 hk
    rw [turn_law J q3.len q6.len hk g1 g2 g3]
    rfl
  · unfold laws_FnTravel_L12
    rw [decide_eq_false (by rw [q3.len]; omega), cond_false]
    have hte : to.toNat < e.length := by rw [q3.len]; omega
    have ht20 : to < (e.length : Int) := by rw [q3.len]; omega
    rcases travel_impl (n := n) l fr to a ch hll hn with ⟨t1, _⟩ | ⟨_, e', t2, t3⟩
    · rw [ho a (by omega) (by omega), decide_eq_true (show 0 ≤ to ∧ to ≤ 19 by omega)] at t1; cases t1
    have := q3.uniq hb f1.1 t2
    subst this
    rw [t3]
    unfold travelR
    by_cases hneg : e.getD to.toNat 0 < 0
    · rw [decide_eq_true hneg, cond_true, Option.bind_some]
      simp only [Bool.not_false, cond_true, List.length_nil, Int.ofNat_zero, decide_true]
      rw [ix_of f2.1 ht20, chk_dec hte]
    rw [decide_eq_false hneg, cond_false]
    by_cases hft : fr = to
    · rw [decide_eq_true hft, cond_true, Option.bind_some]
      simp only [Bool.not_true, cond_false]
      unfold laws_FnTravel_k2
      have := goes_loop (n := n) hb (to := to) (ch := ch) (by omega) e (fun port160 now161 => (bif (decide (port160 = to)) then ix to e.length (chk (decide (to.toNat < e.length)) (some ((decide (now161 = (e.getD to.toNat (0 : Int))))))) else some (false))) (fun t163 => some t163) [] (fun x hx => by cases hx) (by simp) 0 0 fr a 0 n (fr, a) rfl (by omega) (by omega) rfl
      refine this.trans ?_
      show (bif decide (fr = to) then _ else _) = _
      have h3 := q3.at0
      rw [hft] at h3
      rw [decide_eq_true hft, cond_true, ix_of f2.1 ht20, chk_dec hte, h3, decide_eq_true rfl]
    rw [decide_eq_false hft, cond_false]
    rcases scan_cases (f := wayF l fr to a ch (e.getD to.toNat 0)) (z := some (([] : List Int), false)) 6 0 with ⟨s1, s2⟩ | ⟨k, r, s1, s2, s3, s4⟩
    · rw [s1, Option.bind_some]
      simp only [Bool.not_false, cond_true, List.length_nil, Int.ofNat_zero, decide_true]
      rw [ix_of f2.1 ht20, chk_dec hte, cond_false]
      by_cases h6 : (l.length : Int) > 6
      · rw [decide_eq_true h6]
      · exfalso
        have hte2 : ((to.toNat : Nat) : Int) = to := by omega
        rcases q3.best to.toNat (by omega) (by omega) with ⟨b0, _⟩ | ⟨i, i1, i2, i3, i4, i5⟩
        · omega
        · obtain ⟨k, k1, k2⟩ := way_there hb (to := to) (when := e.getD to.toNat 0) f4.1 i2 (by rw [i3]; exact hte2) i4.symm
          have := s2 k (by omega) (by omega)
          unfold wayF at this
          rw [if_pos k2] at this
          cases this
    · unfold wayF at s3
      split at s3
      · rename_i hany
        cases s3
        rw [s4, Option.bind_some]
        simp only [Bool.not_true, cond_false]
        obtain ⟨w1, w2⟩ := greL_goes hb f4.1 k fr a 0 hany
        unfold laws_FnTravel_k2
        have := goes_loop (n := n) hb (to := to) (ch := ch) (by omega) e (fun port160 now161 => (bif (decide (port160 = to)) then ix to e.length (chk (decide (to.toNat < e.length)) (some ((decide (now161 = (e.getD to.toNat (0 : Int))))))) else some (false))) (fun t163 => some t163) (greL l to (e.getD to.toNat 0) ch k (mayS l fr a 0 ch)) w2 (by rw [greL_len hany]; omega) (k + 1) 0 fr a 0 n (to, e.getD to.toNat 0) (by rw [greL_len hany]; omega) (by omega) (by omega) w1
        refine this.trans ?_
        show (bif decide (to = to) then _ else _) = _
        rw [decide_eq_true rfl, cond_true, ix_of f2.1 ht20, chk_dec hte, decide_eq_true rfl]
      · cases s3
end Go.Sm
end
