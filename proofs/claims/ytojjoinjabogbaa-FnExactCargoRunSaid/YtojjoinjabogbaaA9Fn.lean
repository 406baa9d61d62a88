import Derived.Test.YtojjoinjabogbaaEngA
/- The functions as plain functions over data, and that the law answers true for all arguments. CargoRun: a run of cargo ops by the written-out step and by the built one are alike for all tanks, ops and leans. -/
section
set_option linter.unusedSimpArgs false
set_option linter.deprecated false
set_option linter.unusedSectionVars false
set_option linter.unusedVariables false
namespace Go.Sm
structure SCargoTank where
  Has : Int
  Most : Int
  Side : Int
  Gas : Int
  Air : Int
structure SCargoOp where
  Kind : Int
  A : Int
  B : Int
  Many : Int
def dSCargoTank : SCargoTank := ⟨(0 : Int), (0 : Int), (0 : Int), (0 : Int), (0 : Int)⟩
def dSCargoOp : SCargoOp := ⟨(0 : Int), (0 : Int), (0 : Int), (0 : Int)⟩
def laws_szCargoTankS (n : Nat) (a0 : List SCargoTank) (left1 : Int) : Option Int :=
  (bd (w64 (left1 - (a0.length : Int))) fun (v1 : Int) => (bif (decide (v1 < (0 : Int))) then some ((-1 : Int)) else some (v1)))
def laws_szCargoOpS (n : Nat) (a0 : List SCargoOp) (left1 : Int) : Option Int :=
  (bd (w64 (left1 - (a0.length : Int))) fun (v1 : Int) => (bif (decide (v1 < (0 : Int))) then some ((-1 : Int)) else some (v1)))
def laws_toCargoTank (n : Nat) (a0 : SCargoTank) : Option SCargoTank :=
  some (a0)
def laws_toCargoTankS_L3 {R : Type} (n : Nat) (kx0 : List SCargoTank → Option R) (J : Int → List SCargoTank → Option R) (a1 : List SCargoTank) (i2 : Int) (out3 : List SCargoTank) : Option R :=
  (bif (decide (i2 < (a1.length : Int))) then ix i2 a1.length ((bd (a1.getD i2.toNat dSCargoTank) fun (e8 : SCargoTank) => (laws_toCargoTank n e8).bind fun r9 => ix i2 out3.length (chk (decide (i2.toNat < out3.length)) (J (w64 (i2 + (1 : Int))) (out3.set i2.toNat r9))))) else kx0 out3)
def laws_toCargoTankS (n : Nat) (a0 : List SCargoTank) : Option (List SCargoTank) :=
  chk (decide ((0 : Int) ≤ (a0.length : Int))) (chk (decide ((a0.length : Int) ≤ (a0.length : Int))) (chk (decide ((a0.length : Int) ≤ 9223372036854775807 ∧ (a0.length : Int) * (40 : Int) ≤ 281474976710656)) (loopN (fun (x : Int × List SCargoTank) J' => laws_toCargoTankS_L3 n (fun out10 => some (out10)) (fun i11 out12 => J' (i11, out12)) a0 x.1 x.2) n ((0 : Int), (List.replicate (a0.length : Int).toNat dSCargoTank)))))
def laws_toCargoOp (n : Nat) (a0 : SCargoOp) : Option SCargoOp :=
  some (a0)
def laws_toCargoOpS_L3 {R : Type} (n : Nat) (kx0 : List SCargoOp → Option R) (J : Int → List SCargoOp → Option R) (a1 : List SCargoOp) (i2 : Int) (out3 : List SCargoOp) : Option R :=
  (bif (decide (i2 < (a1.length : Int))) then ix i2 a1.length ((bd (a1.getD i2.toNat dSCargoOp) fun (e8 : SCargoOp) => (laws_toCargoOp n e8).bind fun r9 => ix i2 out3.length (chk (decide (i2.toNat < out3.length)) (J (w64 (i2 + (1 : Int))) (out3.set i2.toNat r9))))) else kx0 out3)
def laws_toCargoOpS (n : Nat) (a0 : List SCargoOp) : Option (List SCargoOp) :=
  chk (decide ((0 : Int) ≤ (a0.length : Int))) (chk (decide ((a0.length : Int) ≤ (a0.length : Int))) (chk (decide ((a0.length : Int) ≤ 9223372036854775807 ∧ (a0.length : Int) * (32 : Int) ≤ 281474976710656)) (loopN (fun (x : Int × List SCargoOp) J' => laws_toCargoOpS_L3 n (fun out10 => some (out10)) (fun i11 out12 => J' (i11, out12)) a0 x.1 x.2) n ((0 : Int), (List.replicate (a0.length : Int).toNat dSCargoOp)))))
def spec_l1In (n : Nat) (x0 : Int) (a1 : Int) (b2 : Int) : Option Bool :=
  (bif (decide (x0 ≥ a1)) then some ((decide (x0 ≤ b2))) else some (false))
def spec_TanksOk_k0 {R : Type} (n : Nat) (kx0 : Option R) (kxr : Bool → Option R) (J : Int → Option R) (list1 : List SCargoTank) (i3 : Int) : Option R :=
  ix i3 list1.length ((bd (list1.getD i3.toNat dSCargoTank) fun (e4 : SCargoTank) => (spec_l1In n e4.Has (0 : Int) e4.Most).bind fun r5 => (bif (!r5) then kxr false else (bif (decide (e4.Most > (100000 : Int))) then kxr false else (spec_l1In n e4.Side (-50 : Int) (50 : Int)).bind fun r8 => (bif (!r8) then kxr false else (spec_l1In n e4.Gas (0 : Int) (1000 : Int)).bind fun r10 => (bif (!r10) then kxr false else (spec_l1In n e4.Air (0 : Int) (1000 : Int)).bind fun r12 => (bif (!r12) then kxr false else (bif (decide ((w64 (e4.Gas + e4.Air)) > (1000 : Int))) then kxr false else J (w64 (i3 + (1 : Int)))))))))))
def spec_TanksOk_L2 {R : Type} (n : Nat) (kx0 : Option R) (kxr : Bool → Option R) (J : Int → Option R) (list1 : List SCargoTank) (i2 : Int) : Option R :=
  (bif (decide (i2 < (list1.length : Int))) then spec_TanksOk_k0 n kx0 kxr J list1 i2 else kx0)
def spec_TanksOk (n : Nat) (list0 : List SCargoTank) : Option Bool :=
  loopN (fun (x : Int) J' => spec_TanksOk_L2 n ((spec_l1In n (list0.length : Int) (1 : Int) (12 : Int)).bind fun r18 => some (r18)) (fun t19 => some (t19)) J' list0 x) n ((0 : Int))
def spec_l13Op_k0 (n : Nat)  (n9 : Int) (op1 : SCargoOp) : Option Bool :=
  (spec_l1In n op1.Many (1 : Int) (100000 : Int)).bind fun r10 => (bif r10 then (bif (!(decide (op1.Kind = (3 : Int)))) then some (true) else (spec_l1In n op1.B (0 : Int) n9).bind fun r11 => (bif r11 then some ((!(decide (op1.B = op1.A)))) else some (false))) else some (false))
def spec_l13Op (n : Nat) (list0 : List SCargoTank) (op1 : SCargoOp) : Option Bool :=
  (bd (w64 ((list0.length : Int) - (1 : Int))) fun (v1 : Int) => (spec_l1In n op1.Kind (1 : Int) (5 : Int)).bind fun r2 => (bif (!r2) then some (false) else (spec_l1In n op1.A (0 : Int) v1).bind fun r4 => (bif (!r4) then some (false) else (bif (decide (op1.Kind ≥ (4 : Int))) then (spec_l1In n op1.Many (1 : Int) (100 : Int)).bind fun r16 => some (r16) else spec_l13Op_k0 n  v1 op1))))
def spec_l13In (n : Nat) (t0 : SCargoTank) (many1 : Int) : Option SCargoTank :=
  some ((⟨(w64 (t0.Has + many1)), t0.Most, t0.Side, t0.Gas, t0.Air⟩ : SCargoTank))
def spec_l13Burns (n : Nat) (t0 : SCargoTank) : Option Bool :=
  (bif (decide (t0.Air > (110 : Int))) then (spec_l1In n t0.Gas (20 : Int) (600 : Int)).bind fun r1 => some (r1) else some (false))
def spec_l3Size (n : Nat) (x0 : Int) : Option Int :=
  (bif (decide (x0 < (0 : Int))) then some ((w64 (0 - x0))) else some (x0))
def spec_l13Lean_k0 {R : Type} (n : Nat) (kx0 : Int → Option R) (J : Int → Int → Option R) (list1 : List SCargoTank) (sum4 : Int) (i5 : Int) : Option R :=
  ix i5 list1.length ((bd (list1.getD i5.toNat dSCargoTank) fun (e6 : SCargoTank) => ix i5 list1.length ((bd (list1.getD i5.toNat dSCargoTank) fun (e7 : SCargoTank) => (bd (w64 (sum4 + (w64 (e6.Has * e7.Side)))) fun (v8 : Int) => J v8 (w64 (i5 + (1 : Int))))))))
def spec_l13Lean_L3 {R : Type} (n : Nat) (kx0 : Int → Option R) (J : Int → Int → Option R) (list1 : List SCargoTank) (sum2 : Int) (i3 : Int) : Option R :=
  (bif (decide (i3 < (list1.length : Int))) then spec_l13Lean_k0 n kx0 J list1 sum2 i3 else kx0 sum2)
def spec_l13Lean (n : Nat) (list0 : List SCargoTank) : Option Int :=
  loopN (fun (x : Int × Int) J' => spec_l13Lean_L3 n (fun sum9 => (spec_l3Size n sum9).bind fun r10 => some (r10)) (fun sum11 i12 => J' (sum11, i12)) list0 x.1 x.2) n ((0 : Int), (0 : Int))
def spec_l13Out (n : Nat) (t0 : SCargoTank) (many1 : Int) : Option SCargoTank :=
  (bif (decide ((w64 (t0.Has - many1)) ≥ (0 : Int))) then (bd (w64 (t0.Most - (w64 (t0.Has - many1)))) fun (v1 : Int) => (bd (w64 (t0.Gas * (w64 (v1 - many1)))) fun (v2 : Int) => (bif decide (v1 = 0) then none else (bd (w64 (t0.Air * (w64 (v1 - many1)))) fun (v3 : Int) => (bif decide (v1 = 0) then none else some ((⟨(w64 (t0.Has - many1)), t0.Most, t0.Side, (w64 (Int.tdiv v2 v1)), (w64 (Int.tdiv v3 v1))⟩ : SCargoTank))))))) else some ((⟨(w64 (t0.Has - many1)), t0.Most, t0.Side, t0.Gas, t0.Air⟩ : SCargoTank)))
def spec_CargoStep_k0 {R : Type} (n : Nat) (kx1 : Bool → Bool → Bool → Option R) (J : Bool → Bool → Bool → Int → Option R) (list9 : List SCargoTank) (lean10 : Int) (over23 : Bool) (burns24 : Bool) (i25 : Int) (same15 : List SCargoTank) (out16 : List SCargoTank) (named17 : List Int) (t26 : SCargoTank) : Option R :=
  (bif over23 then (bif burns24 then J true true true (w64 (i25 + (1 : Int))) else (spec_l13Burns n t26).bind fun r35 => J true true r35 (w64 (i25 + (1 : Int)))) else (bif burns24 then J true (decide (t26.Has > t26.Most)) true (w64 (i25 + (1 : Int))) else (spec_l13Burns n t26).bind fun r50 => J true (decide (t26.Has > t26.Most)) r50 (w64 (i25 + (1 : Int)))))
def spec_CargoStep_k1 {R : Type} (n : Nat) (kx1 : Bool → Bool → Bool → Option R) (J : Bool → Bool → Bool → Int → Option R) (list9 : List SCargoTank) (lean10 : Int) (dry54 : Bool) (over55 : Bool) (burns56 : Bool) (i57 : Int) (same15 : List SCargoTank) (out16 : List SCargoTank) (named17 : List Int) (t58 : SCargoTank) : Option R :=
  (bif over55 then (bif burns56 then J dry54 true true (w64 (i57 + (1 : Int))) else (spec_l13Burns n t58).bind fun r71 => J dry54 true r71 (w64 (i57 + (1 : Int)))) else (bif burns56 then J dry54 (decide (t58.Has > t58.Most)) true (w64 (i57 + (1 : Int))) else (spec_l13Burns n t58).bind fun r91 => J dry54 (decide (t58.Has > t58.Most)) r91 (w64 (i57 + (1 : Int)))))
def spec_CargoStep_k2 {R : Type} (n : Nat) (kx1 : Bool → Bool → Bool → Option R) (J : Bool → Bool → Bool → Int → Option R) (list9 : List SCargoTank) (lean10 : Int) (dry18 : Bool) (over19 : Bool) (burns20 : Bool) (i21 : Int) (same15 : List SCargoTank) (out16 : List SCargoTank) (named17 : List Int) : Option R :=
  ix i21 named17.length (chk (decide (i21.toNat < named17.length)) (ix (named17.getD i21.toNat (0 : Int)) out16.length (chk (decide ((named17.getD i21.toNat (0 : Int)).toNat < out16.length)) ((bd (out16.getD ((named17.getD i21.toNat (0 : Int)).toNat) dSCargoTank) fun (e22 : SCargoTank) => (bif dry18 then spec_CargoStep_k0 n kx1 J list9 lean10 over19 burns20 i21 same15 out16 named17 e22 else spec_CargoStep_k1 n kx1 J list9 lean10 (decide (e22.Has < (0 : Int))) over19 burns20 i21 same15 out16 named17 e22))))))
def spec_CargoStep_L21 {R : Type} (n : Nat) (kx1 : Bool → Bool → Bool → Option R) (J : Bool → Bool → Bool → Int → Option R) (list9 : List SCargoTank) (lean10 : Int) (dry11 : Bool) (over12 : Bool) (burns13 : Bool) (i14 : Int) (same15 : List SCargoTank) (out16 : List SCargoTank) (named17 : List Int) : Option R :=
  (bif (decide (i14 < (named17.length : Int))) then spec_CargoStep_k2 n kx1 J list9 lean10 dry11 over12 burns13 i14 same15 out16 named17 else kx1 dry11 over12 burns13)
def spec_CargoStep_k3 (n : Nat)  (list0 : List SCargoTank) (lean2 : Int) (t7 : List SCargoTank) (t8 : List Int) : Option (List SCargoTank × Int) :=
  loopN (fun (x : Bool × Bool × Bool × Int) J' => spec_CargoStep_L21 n (fun dry96 over97 burns98 => (bif dry96 then some (list0, (2 : Int)) else (bif over97 then some (list0, (3 : Int)) else (bif burns98 then some (list0, (4 : Int)) else (spec_l13Lean n t7).bind fun r99 => (bif (decide (r99 > lean2)) then (spec_l13Lean n t7).bind fun r100 => (spec_l13Lean n list0).bind fun r101 => (bif (decide (r100 > r101)) then some (list0, (5 : Int)) else some (t7, (0 : Int))) else some (t7, (0 : Int))))))) (fun dry109 over110 burns111 i112 => J' (dry109, over110, burns111, i112)) list0 lean2 x.1 x.2.1 x.2.2.1 x.2.2.2 list0 t7 t8) n (false, false, false, (0 : Int))
def spec_CargoStep_k4 (n : Nat)  (list0 : List SCargoTank) (lean2 : Int) (t122 : List SCargoTank) (t123 : List Int) : Option (List SCargoTank × Int) :=
  loopN (fun (x : Bool × Bool × Bool × Int) J' => spec_CargoStep_L21 n (fun dry124 over125 burns126 => (bif dry124 then some (list0, (2 : Int)) else (bif over125 then some (list0, (3 : Int)) else (bif burns126 then some (list0, (4 : Int)) else (spec_l13Lean n t122).bind fun r127 => (bif (decide (r127 > lean2)) then (spec_l13Lean n t122).bind fun r128 => (spec_l13Lean n list0).bind fun r129 => (bif (decide (r128 > r129)) then some (list0, (5 : Int)) else some (t122, (0 : Int))) else some (t122, (0 : Int))))))) (fun dry135 over136 burns137 i138 => J' (dry135, over136, burns137, i138)) list0 lean2 x.1 x.2.1 x.2.2.1 x.2.2.2 list0 t122 t123) n (false, false, false, (0 : Int))
def spec_CargoStep_k5 (n : Nat)  (list0 : List SCargoTank) (lean2 : Int) (op1 : SCargoOp) : Option (List SCargoTank × Int) :=
  chk (decide (list0.length * 40 ≤ 140737488355328)) ((bif (decide (op1.Kind = (1 : Int))) then ix op1.A list0.length (chk (decide (op1.A.toNat < list0.length)) ((bd (list0.getD op1.A.toNat dSCargoTank) fun (e5 : SCargoTank) => (spec_l13In n e5 op1.Many).bind fun r6 => ix op1.A list0.length (chk (decide (op1.A.toNat < list0.length)) (spec_CargoStep_k3 n  list0 lean2 (list0.set op1.A.toNat r6) [op1.A]))))) else (bif (decide (op1.Kind = (2 : Int))) then ix op1.A list0.length (chk (decide (op1.A.toNat < list0.length)) ((bd (list0.getD op1.A.toNat dSCargoTank) fun (e113 : SCargoTank) => (spec_l13Out n e113 op1.Many).bind fun r114 => ix op1.A list0.length (chk (decide (op1.A.toNat < list0.length)) (spec_CargoStep_k3 n  list0 lean2 (list0.set op1.A.toNat r114) [op1.A]))))) else (bif (decide (op1.Kind = (3 : Int))) then ix op1.A list0.length (chk (decide (op1.A.toNat < list0.length)) ((bd (list0.getD op1.A.toNat dSCargoTank) fun (e117 : SCargoTank) => (spec_l13Out n e117 op1.Many).bind fun r118 => ix op1.A list0.length (chk (decide (op1.A.toNat < list0.length)) (ix op1.B ((list0.set op1.A.toNat r118).length) (chk (decide (op1.B.toNat < (list0.set op1.A.toNat r118).length)) ((bd ((list0.set op1.A.toNat r118).getD op1.B.toNat dSCargoTank) fun (e119 : SCargoTank) => (spec_l13In n e119 op1.Many).bind fun r120 => ix op1.B ((list0.set op1.A.toNat r118).length) (chk (decide (op1.B.toNat < (list0.set op1.A.toNat r118).length)) ((bd ((list0.set op1.A.toNat r118).set op1.B.toNat r120) fun (l121 : List SCargoTank) => spec_CargoStep_k4 n  list0 lean2 l121 [op1.A, op1.B]))))))))))) else ix op1.A list0.length (chk (decide (op1.A.toNat < list0.length)) ((bd (w64 ((100 : Int) - op1.Many)) fun (v139 : Int) => (bd (w64 ((list0.getD op1.A.toNat dSCargoTank).Gas * v139)) fun (v140 : Int) => (bd (w64 (Int.tdiv v140 (100 : Int))) fun (v141 : Int) => ix op1.A list0.length (chk (decide (op1.A.toNat < list0.length)) ((bd (list0.getD op1.A.toNat dSCargoTank) fun (e142 : SCargoTank) => (bd (list0.set op1.A.toNat (⟨e142.Has, e142.Most, e142.Side, v141, e142.Air⟩ : SCargoTank)) fun (l143 : List SCargoTank) => ix op1.A l143.length (chk (decide (op1.A.toNat < l143.length)) ((bd (w64 ((100 : Int) - op1.Many)) fun (v144 : Int) => (bd (w64 ((l143.getD op1.A.toNat dSCargoTank).Air * v144)) fun (v145 : Int) => (bd (w64 (Int.tdiv v145 (100 : Int))) fun (v146 : Int) => ix op1.A l143.length (chk (decide (op1.A.toNat < l143.length)) ((bd (l143.getD op1.A.toNat dSCargoTank) fun (e147 : SCargoTank) => (bd (l143.set op1.A.toNat (⟨e147.Has, e147.Most, e147.Side, e147.Gas, v146⟩ : SCargoTank)) fun (l148 : List SCargoTank) => (bif (decide (op1.Kind = (5 : Int))) then ix op1.A l148.length (chk (decide (op1.A.toNat < l148.length)) ((bd (w64 ((10 : Int) * op1.Many)) fun (v149 : Int) => (bd (w64 ((l148.getD op1.A.toNat dSCargoTank).Air + v149)) fun (v150 : Int) => ix op1.A l148.length (chk (decide (op1.A.toNat < l148.length)) ((bd (l148.getD op1.A.toNat dSCargoTank) fun (e151 : SCargoTank) => (bd (l148.set op1.A.toNat (⟨e151.Has, e151.Most, e151.Side, e151.Gas, v150⟩ : SCargoTank)) fun (l152 : List SCargoTank) => spec_CargoStep_k3 n  list0 lean2 l152 [op1.A])))))))) else spec_CargoStep_k3 n  list0 lean2 l148 [op1.A])))))))))))))))))))))))
def spec_CargoStep (n : Nat) (list0 : List SCargoTank) (op1 : SCargoOp) (lean2 : Int) : Option (List SCargoTank × Int) :=
  chk (decide (list0.length * 40 ≤ 140737488355328)) ((spec_TanksOk n list0).bind fun r1 => (bif (!r1) then some (list0, (1 : Int)) else (spec_l13Op n list0 op1).bind fun r2 => (bif (!r2) then some (list0, (1 : Int)) else (spec_l1In n lean2 (0 : Int) (100000000 : Int)).bind fun r3 => (bif (!r3) then some (list0, (1 : Int)) else spec_CargoStep_k5 n  list0 lean2 op1))))
def spec_CargoRun_k0 {R : Type} (n : Nat) (kx0 : List SCargoTank → List Int → Option R) (J : Int → List SCargoTank → List Int → Option R) (ops1 : List SCargoOp) (lean2 : Int) (i6 : Int) (t7 : Bool) (out8 : List SCargoTank) (codes9 : List Int) : Option R :=
  (bif t7 then ix i6 ops1.length ((bd (ops1.getD i6.toNat dSCargoOp) fun (e15 : SCargoOp) => (spec_CargoStep n out8 e15 lean2).bind fun r16 => chk (decide ((codes9 ++ [r16.2]).length * 8 ≤ 140737488355328)) (J (w64 (i6 + (1 : Int))) r16.1 (codes9 ++ [r16.2])))) else kx0 out8 codes9)
def spec_CargoRun_L4 {R : Type} (n : Nat) (kx0 : List SCargoTank → List Int → Option R) (J : Int → List SCargoTank → List Int → Option R) (ops1 : List SCargoOp) (lean2 : Int) (i3 : Int) (out4 : List SCargoTank) (codes5 : List Int) : Option R :=
  (bif (decide (i3 < (ops1.length : Int))) then spec_CargoRun_k0 n kx0 J ops1 lean2 i3 (decide ((ops1.length : Int) ≤ (100 : Int))) out4 codes5 else kx0 out4 codes5)
def spec_CargoRun (n : Nat) (list0 : List SCargoTank) (ops1 : List SCargoOp) (lean2 : Int) : Option (List SCargoTank × List Int) :=
  chk (decide (list0.length * 40 ≤ 140737488355328)) (loopN (fun (x : Int × List SCargoTank × List Int) J' => spec_CargoRun_L4 n (fun out20 codes21 => some (out20, codes21)) (fun i22 out23 codes24 => J' (i22, out23, codes24)) ops1 lean2 x.1 x.2.1 x.2.2) n ((0 : Int), list0, []))
def impl_own_impl_CargoTank (n : Nat) (l0 : List SCargoTank) : Option (List SCargoTank) :=
  chk (decide ((0 : Int) ≤ (l0.length : Int))) (chk (decide ((l0.length : Int) ≤ 9223372036854775807 ∧ (l0.length : Int) * (40 : Int) ≤ 281474976710656)) (chk (decide (l0.length * 40 ≤ 140737488355328)) (some (l0))))
def impl_in (n : Nat) (n0 : Int) (least1 : Int) (most2 : Int) : Option Bool :=
  (bif (decide (n0 ≥ least1)) then some ((decide (n0 ≤ most2))) else some (false))
def impl_TanksOk_1 (n : Nat) (t0 : SCargoTank) : Option Bool :=
  (impl_in n t0.Has (0 : Int) t0.Most).bind fun r1 => (bif (!r1) then some (true) else (bif (decide (t0.Most > (100000 : Int))) then some (true) else (impl_in n t0.Side (-50 : Int) (50 : Int)).bind fun r2 => (bif (!r2) then some (true) else (impl_in n t0.Gas (0 : Int) (1000 : Int)).bind fun r3 => (bif (!r3) then some (true) else (impl_in n t0.Air (0 : Int) (1000 : Int)).bind fun r4 => (bif (!r4) then some (true) else some ((decide ((w64 (t0.Gas + t0.Air)) > (1000 : Int)))))))))
def slices_IndexFunc_impl_CargoTank_impl_CargoTank__impl_TanksOk_1_L2 {R : Type} (n : Nat) (kx0 : Option R) (kxr : Int → Option R) (J : Int → Option R) (s1 : List SCargoTank) (t2 : Int) (t3 : Int) : Option R :=
  (bif (decide (t3 < t2)) then ix t3 s1.length ((bd (s1.getD t3.toNat dSCargoTank) fun (e8 : SCargoTank) => (impl_TanksOk_1 n e8).bind fun r9 => (bif r9 then kxr t3 else J (w64 (t3 + (1 : Int)))))) else kx0)
def slices_IndexFunc_impl_CargoTank_impl_CargoTank__impl_TanksOk_1 (n : Nat) (s0 : List SCargoTank) : Option Int :=
  loopN (fun (x : Int) J' => slices_IndexFunc_impl_CargoTank_impl_CargoTank__impl_TanksOk_1_L2 n (some ((-1 : Int))) (fun t11 => some (t11)) J' s0 (s0.length : Int) x) n ((0 : Int))
def slices_ContainsFunc_impl_CargoTank_impl_CargoTank__impl_TanksOk_1 (n : Nat) (s0 : List SCargoTank) : Option Bool :=
  (slices_IndexFunc_impl_CargoTank_impl_CargoTank__impl_TanksOk_1 n s0).bind fun r1 => some ((decide (r1 ≥ (0 : Int))))
def impl_TanksOk (n : Nat) (list0 : List SCargoTank) : Option Bool :=
  (impl_in n (list0.length : Int) (1 : Int) (12 : Int)).bind fun r1 => (bif r1 then (slices_ContainsFunc_impl_CargoTank_impl_CargoTank__impl_TanksOk_1 n list0).bind fun r2 => some ((!r2)) else some (false))
def impl_CargoTank_mayBurn (n : Nat) (t0 : SCargoTank) : Option Bool :=
  (bif (decide (t0.Air > (110 : Int))) then (impl_in n t0.Gas (20 : Int) (600 : Int)).bind fun r1 => some (r1) else some (false))
def impl_leanOf_L3 {R : Type} (n : Nat) (kx0 : Int → Option R) (J : Int → Int → Option R) (s1 : Int) (t2 : List SCargoTank) (t3 : Int) (t4 : Int) : Option R :=
  (bif (decide (t4 < t3)) then ix t4 t2.length ((bd (t2.getD t4.toNat dSCargoTank) fun (e9 : SCargoTank) => (bd (w64 (s1 + (w64 (e9.Has * e9.Side)))) fun (v10 : Int) => J v10 (w64 (t4 + (1 : Int)))))) else kx0 s1)
def impl_leanOf (n : Nat) (list0 : List SCargoTank) : Option Int :=
  loopN (fun (x : Int × Int) J' => impl_leanOf_L3 n (fun s11 => some (s11)) (fun s12 t13 => J' (s12, t13)) x.1 list0 (list0.length : Int) x.2) n ((0 : Int), (0 : Int))
def impl_size (n : Nat) (n0 : Int) : Option Int :=
  (bif (decide (n0 < (0 : Int))) then some ((w64 (0 - n0))) else some (n0))
def impl_CargoTank_out (n : Nat) (t0 : List SCargoTank) (t0_i : Nat) (many1 : Int) : Option (List SCargoTank) :=
  chk (decide (t0_i < t0.length)) ((bd (w64 ((t0.getD t0_i dSCargoTank).Has - many1)) fun (v1 : Int) => chk (decide (t0_i < t0.length)) ((bd (t0.getD t0_i dSCargoTank) fun (e2 : SCargoTank) => (bd (t0.set t0_i (⟨v1, e2.Most, e2.Side, e2.Gas, e2.Air⟩ : SCargoTank)) fun (l3 : List SCargoTank) => chk (decide (t0_i < l3.length)) (chk (decide (t0_i < l3.length)) ((bd (w64 ((l3.getD t0_i dSCargoTank).Most - (l3.getD t0_i dSCargoTank).Has)) fun (v4 : Int) => chk (decide (t0_i < l3.length)) ((bd (w64 ((l3.getD t0_i dSCargoTank).Gas * (w64 (v4 - many1)))) fun (v5 : Int) => (bif decide (v4 = 0) then none else chk (decide (t0_i < l3.length)) ((bd (l3.getD t0_i dSCargoTank) fun (e6 : SCargoTank) => (bd (l3.set t0_i (⟨e6.Has, e6.Most, e6.Side, (w64 (Int.tdiv v5 v4)), e6.Air⟩ : SCargoTank)) fun (l7 : List SCargoTank) => chk (decide (t0_i < l7.length)) ((bd (w64 ((l7.getD t0_i dSCargoTank).Air * (w64 (v4 - many1)))) fun (v8 : Int) => (bif decide (v4 = 0) then none else chk (decide (t0_i < l7.length)) ((bd (l7.getD t0_i dSCargoTank) fun (e9 : SCargoTank) => (bd (l7.set t0_i (⟨e9.Has, e9.Most, e9.Side, e9.Gas, (w64 (Int.tdiv v8 v4))⟩ : SCargoTank)) fun (l10 : List SCargoTank) => some (l10)))))))))))))))))))))
def impl_CargoStep_k0 (n : Nat)  (list0 : List SCargoTank) (lean2 : Int) (t76 : Bool) (t77 : List SCargoTank) (t78 : List SCargoTank) : Option (List SCargoTank × Int) :=
  (bif t76 then some (t77, (4 : Int)) else (impl_leanOf n t78).bind fun r94 => (impl_size n r94).bind fun r95 => (bif (decide (r95 > lean2)) then (impl_leanOf n list0).bind fun r96 => (impl_size n r96).bind fun r97 => (bif (decide (r95 > r97)) then some (t77, (5 : Int)) else some (t78, (0 : Int))) else some (t78, (0 : Int))))
def impl_CargoStep_k1 (n : Nat)  (list0 : List SCargoTank) (lean2 : Int) (t105 : List SCargoTank) (t106 : List SCargoTank) : Option (List SCargoTank × Int) :=
  (impl_leanOf n t106).bind fun r109 => (impl_size n r109).bind fun r110 => (bif (decide (r110 > lean2)) then (impl_leanOf n list0).bind fun r111 => (impl_size n r111).bind fun r112 => (bif (decide (r110 > r112)) then some (t105, (5 : Int)) else some (t106, (0 : Int))) else some (t106, (0 : Int)))
def impl_CargoStep_k2 (n : Nat)  (list0 : List SCargoTank) (lean2 : Int) (a66 : Nat) (to67 : Nat) (op1 : SCargoOp) (t68 : List SCargoTank) (t69 : List SCargoTank) : Option (List SCargoTank × Int) :=
  chk (decide (a66 < t69.length)) ((bd (t69.getD a66 dSCargoTank) fun (e70 : SCargoTank) => (impl_CargoTank_mayBurn n e70).bind fun r71 => (bif r71 then some (t68, (4 : Int)) else (bif (decide (op1.Kind = (3 : Int))) then chk (decide (to67 < t69.length)) ((bd (t69.getD to67 dSCargoTank) fun (e74 : SCargoTank) => (impl_CargoTank_mayBurn n e74).bind fun r75 => impl_CargoStep_k0 n  list0 lean2 r75 t68 t69)) else impl_CargoStep_k1 n  list0 lean2 t68 t69))))
def impl_CargoStep_k3 (n : Nat)  (list0 : List SCargoTank) (lean2 : Int) (a48 : Nat) (to49 : Nat) (op1 : SCargoOp) (t50 : List SCargoTank) (t51 : List SCargoTank) : Option (List SCargoTank × Int) :=
  chk (decide (a48 < t51.length)) ((bd (w64 ((100 : Int) - op1.Many)) fun (v52 : Int) => (bd (w64 ((t51.getD a48 dSCargoTank).Gas * v52)) fun (v53 : Int) => (bd (w64 (Int.tdiv v53 (100 : Int))) fun (v54 : Int) => chk (decide (a48 < t51.length)) ((bd (t51.getD a48 dSCargoTank) fun (e55 : SCargoTank) => (bd (t51.set a48 (⟨e55.Has, e55.Most, e55.Side, v54, e55.Air⟩ : SCargoTank)) fun (l56 : List SCargoTank) => chk (decide (a48 < l56.length)) ((bd (w64 ((100 : Int) - op1.Many)) fun (v57 : Int) => (bd (w64 ((l56.getD a48 dSCargoTank).Air * v57)) fun (v58 : Int) => (bd (w64 (Int.tdiv v58 (100 : Int))) fun (v59 : Int) => chk (decide (a48 < l56.length)) ((bd (l56.getD a48 dSCargoTank) fun (e60 : SCargoTank) => (bd (l56.set a48 (⟨e60.Has, e60.Most, e60.Side, e60.Gas, v59⟩ : SCargoTank)) fun (l61 : List SCargoTank) => (bif (decide (op1.Kind = (5 : Int))) then chk (decide (a48 < l61.length)) ((bd (w64 ((10 : Int) * op1.Many)) fun (v62 : Int) => (bd (w64 ((l61.getD a48 dSCargoTank).Air + v62)) fun (v63 : Int) => chk (decide (a48 < l61.length)) ((bd (l61.getD a48 dSCargoTank) fun (e64 : SCargoTank) => (bd (l61.set a48 (⟨e64.Has, e64.Most, e64.Side, e64.Gas, v63⟩ : SCargoTank)) fun (l65 : List SCargoTank) => impl_CargoStep_k2 n  list0 lean2 a48 to49 op1 t50 l65)))))) else impl_CargoStep_k2 n  list0 lean2 a48 to49 op1 t50 l61)))))))))))))))
def impl_CargoStep_k4 (n : Nat)  (list0 : List SCargoTank) (lean2 : Int) (a41 : Nat) (to42 : Nat) (op1 : SCargoOp) (t43 : List SCargoTank) (t44 : List SCargoTank) : Option (List SCargoTank × Int) :=
  chk (decide (to42 < t44.length)) ((bd (w64 ((t44.getD to42 dSCargoTank).Has + op1.Many)) fun (v45 : Int) => chk (decide (to42 < t44.length)) ((bd (t44.getD to42 dSCargoTank) fun (e46 : SCargoTank) => (bd (t44.set to42 (⟨v45, e46.Most, e46.Side, e46.Gas, e46.Air⟩ : SCargoTank)) fun (l47 : List SCargoTank) => impl_CargoStep_k3 n  list0 lean2 a41 to42 op1 t43 l47)))))
def impl_CargoStep_k5 (n : Nat)  (list0 : List SCargoTank) (lean2 : Int) (a27 : Nat) (to28 : Nat) (op1 : SCargoOp) (t29 : List SCargoTank) (t30 : List SCargoTank) : Option (List SCargoTank × Int) :=
  chk (decide (to28 < t30.length)) ((bd (w64 ((t30.getD to28 dSCargoTank).Has + op1.Many)) fun (v31 : Int) => chk (decide (to28 < t30.length)) ((bif (decide (v31 > (t30.getD to28 dSCargoTank).Most)) then some (t29, (3 : Int)) else impl_CargoStep_k4 n  list0 lean2 a27 to28 op1 t29 t30))))
def impl_CargoStep_k6 (n : Nat)  (list0 : List SCargoTank) (lean2 : Int) (t187 : List SCargoTank) (t188 : List SCargoTank) : Option (List SCargoTank × Int) :=
  (impl_leanOf n t188).bind fun r189 => (impl_size n r189).bind fun r190 => (bif (decide (r190 > lean2)) then (impl_leanOf n list0).bind fun r191 => (impl_size n r191).bind fun r192 => (bif (decide (r190 > r192)) then some (t187, (5 : Int)) else some (t188, (0 : Int))) else some (t188, (0 : Int)))
def impl_CargoStep_k7 (n : Nat)  (list0 : List SCargoTank) (lean2 : Int) (a161 : Nat) (op1 : SCargoOp) (t162 : List SCargoTank) (t163 : List SCargoTank) : Option (List SCargoTank × Int) :=
  chk (decide (a161 < t163.length)) ((bd (w64 ((100 : Int) - op1.Many)) fun (v164 : Int) => (bd (w64 ((t163.getD a161 dSCargoTank).Gas * v164)) fun (v165 : Int) => (bd (w64 (Int.tdiv v165 (100 : Int))) fun (v166 : Int) => chk (decide (a161 < t163.length)) ((bd (t163.getD a161 dSCargoTank) fun (e167 : SCargoTank) => (bd (t163.set a161 (⟨e167.Has, e167.Most, e167.Side, v166, e167.Air⟩ : SCargoTank)) fun (l168 : List SCargoTank) => chk (decide (a161 < l168.length)) ((bd (w64 ((100 : Int) - op1.Many)) fun (v169 : Int) => (bd (w64 ((l168.getD a161 dSCargoTank).Air * v169)) fun (v170 : Int) => (bd (w64 (Int.tdiv v170 (100 : Int))) fun (v171 : Int) => chk (decide (a161 < l168.length)) ((bd (l168.getD a161 dSCargoTank) fun (e172 : SCargoTank) => (bd (l168.set a161 (⟨e172.Has, e172.Most, e172.Side, e172.Gas, v171⟩ : SCargoTank)) fun (l173 : List SCargoTank) => (bif (decide (op1.Kind = (5 : Int))) then chk (decide (a161 < l173.length)) ((bd (w64 ((10 : Int) * op1.Many)) fun (v174 : Int) => (bd (w64 ((l173.getD a161 dSCargoTank).Air + v174)) fun (v175 : Int) => chk (decide (a161 < l173.length)) ((bd (l173.getD a161 dSCargoTank) fun (e176 : SCargoTank) => (bd (l173.set a161 (⟨e176.Has, e176.Most, e176.Side, e176.Gas, v175⟩ : SCargoTank)) fun (l177 : List SCargoTank) => chk (decide (a161 < l177.length)) ((bd (l177.getD a161 dSCargoTank) fun (e204 : SCargoTank) => (impl_CargoTank_mayBurn n e204).bind fun r205 => (bif r205 then some (t162, (4 : Int)) else (bif (decide (op1.Kind = (3 : Int))) then none else impl_CargoStep_k6 n  list0 lean2 t162 l177)))))))))) else chk (decide (a161 < l173.length)) ((bd (l173.getD a161 dSCargoTank) fun (e215 : SCargoTank) => (impl_CargoTank_mayBurn n e215).bind fun r216 => (bif r216 then some (t162, (4 : Int)) else (bif (decide (op1.Kind = (3 : Int))) then none else impl_CargoStep_k6 n  list0 lean2 t162 l173)))))))))))))))))))
def impl_CargoStep_k8 (n : Nat)  (list0 : List SCargoTank) (lean2 : Int) (a140 : Nat) (from141 : Nat) (op1 : SCargoOp) (t142 : List SCargoTank) (t143 : List SCargoTank) : Option (List SCargoTank × Int) :=
  chk (decide (from141 < t143.length)) ((bif (decide ((t143.getD from141 dSCargoTank).Has < op1.Many)) then some (t142, (2 : Int)) else chk (decide (from141 < t143.length)) ((impl_CargoTank_out n t143 from141 op1.Many).bind fun r252 => chk (decide (r252.length = t143.length)) (impl_CargoStep_k7 n  list0 lean2 a140 op1 t142 r252))))
def impl_CargoStep_k9 (n : Nat)  (list0 : List SCargoTank) (lean2 : Int) (a308 : Nat) (to309 : Nat) (op1 : SCargoOp) (t310 : List SCargoTank) (t311 : List SCargoTank) : Option (List SCargoTank × Int) :=
  chk (decide (a308 < t311.length)) ((bd (t311.getD a308 dSCargoTank) fun (e312 : SCargoTank) => (impl_CargoTank_mayBurn n e312).bind fun r313 => (bif r313 then some (t310, (4 : Int)) else (bif (decide (op1.Kind = (3 : Int))) then chk (decide (to309 < t311.length)) ((bd (t311.getD to309 dSCargoTank) fun (e316 : SCargoTank) => (impl_CargoTank_mayBurn n e316).bind fun r317 => (bif r317 then some (t310, (4 : Int)) else impl_CargoStep_k6 n  list0 lean2 t310 t311))) else impl_CargoStep_k6 n  list0 lean2 t310 t311))))
def impl_CargoStep_k10 (n : Nat)  (list0 : List SCargoTank) (lean2 : Int) (a290 : Nat) (to291 : Nat) (op1 : SCargoOp) (t292 : List SCargoTank) (t293 : List SCargoTank) : Option (List SCargoTank × Int) :=
  chk (decide (a290 < t293.length)) ((bd (w64 ((100 : Int) - op1.Many)) fun (v294 : Int) => (bd (w64 ((t293.getD a290 dSCargoTank).Gas * v294)) fun (v295 : Int) => (bd (w64 (Int.tdiv v295 (100 : Int))) fun (v296 : Int) => chk (decide (a290 < t293.length)) ((bd (t293.getD a290 dSCargoTank) fun (e297 : SCargoTank) => (bd (t293.set a290 (⟨e297.Has, e297.Most, e297.Side, v296, e297.Air⟩ : SCargoTank)) fun (l298 : List SCargoTank) => chk (decide (a290 < l298.length)) ((bd (w64 ((100 : Int) - op1.Many)) fun (v299 : Int) => (bd (w64 ((l298.getD a290 dSCargoTank).Air * v299)) fun (v300 : Int) => (bd (w64 (Int.tdiv v300 (100 : Int))) fun (v301 : Int) => chk (decide (a290 < l298.length)) ((bd (l298.getD a290 dSCargoTank) fun (e302 : SCargoTank) => (bd (l298.set a290 (⟨e302.Has, e302.Most, e302.Side, e302.Gas, v301⟩ : SCargoTank)) fun (l303 : List SCargoTank) => (bif (decide (op1.Kind = (5 : Int))) then chk (decide (a290 < l303.length)) ((bd (w64 ((10 : Int) * op1.Many)) fun (v304 : Int) => (bd (w64 ((l303.getD a290 dSCargoTank).Air + v304)) fun (v305 : Int) => chk (decide (a290 < l303.length)) ((bd (l303.getD a290 dSCargoTank) fun (e306 : SCargoTank) => (bd (l303.set a290 (⟨e306.Has, e306.Most, e306.Side, e306.Gas, v305⟩ : SCargoTank)) fun (l307 : List SCargoTank) => impl_CargoStep_k9 n  list0 lean2 a290 to291 op1 t292 l307)))))) else impl_CargoStep_k9 n  list0 lean2 a290 to291 op1 t292 l303)))))))))))))))
def impl_CargoStep_k11 (n : Nat)  (list0 : List SCargoTank) (lean2 : Int) (a283 : Nat) (to284 : Nat) (op1 : SCargoOp) (t285 : List SCargoTank) (t286 : List SCargoTank) : Option (List SCargoTank × Int) :=
  chk (decide (to284 < t286.length)) ((bd (w64 ((t286.getD to284 dSCargoTank).Has + op1.Many)) fun (v287 : Int) => chk (decide (to284 < t286.length)) ((bd (t286.getD to284 dSCargoTank) fun (e288 : SCargoTank) => (bd (t286.set to284 (⟨v287, e288.Most, e288.Side, e288.Gas, e288.Air⟩ : SCargoTank)) fun (l289 : List SCargoTank) => impl_CargoStep_k10 n  list0 lean2 a283 to284 op1 t285 l289)))))
def impl_CargoStep_k12 (n : Nat)  (list0 : List SCargoTank) (lean2 : Int) (a264 : Nat) (from265 : Nat) (to266 : Nat) (t267 : Bool) (op1 : SCargoOp) (t268 : List SCargoTank) (t269 : List SCargoTank) : Option (List SCargoTank × Int) :=
  (bif t267 then some (t268, (2 : Int)) else chk (decide (to266 < t269.length)) ((bd (w64 ((t269.getD to266 dSCargoTank).Has + op1.Many)) fun (v270 : Int) => chk (decide (to266 < t269.length)) ((bif (decide (v270 > (t269.getD to266 dSCargoTank).Most)) then some (t268, (3 : Int)) else chk (decide (from265 < t269.length)) ((impl_CargoTank_out n t269 from265 op1.Many).bind fun r343 => chk (decide (r343.length = t269.length)) (impl_CargoStep_k11 n  list0 lean2 a264 to266 op1 t268 r343)))))))
def impl_CargoStep_k13 (n : Nat)  (list0 : List SCargoTank) (lean2 : Int) (a369 : Nat) (op1 : SCargoOp) (t370 : List SCargoTank) (t371 : List SCargoTank) : Option (List SCargoTank × Int) :=
  chk (decide (a369 < t371.length)) ((bd (w64 ((100 : Int) - op1.Many)) fun (v372 : Int) => (bd (w64 ((t371.getD a369 dSCargoTank).Gas * v372)) fun (v373 : Int) => (bd (w64 (Int.tdiv v373 (100 : Int))) fun (v374 : Int) => chk (decide (a369 < t371.length)) ((bd (t371.getD a369 dSCargoTank) fun (e375 : SCargoTank) => (bd (t371.set a369 (⟨e375.Has, e375.Most, e375.Side, v374, e375.Air⟩ : SCargoTank)) fun (l376 : List SCargoTank) => chk (decide (a369 < l376.length)) ((bd (w64 ((100 : Int) - op1.Many)) fun (v377 : Int) => (bd (w64 ((l376.getD a369 dSCargoTank).Air * v377)) fun (v378 : Int) => (bd (w64 (Int.tdiv v378 (100 : Int))) fun (v379 : Int) => chk (decide (a369 < l376.length)) ((bd (l376.getD a369 dSCargoTank) fun (e380 : SCargoTank) => (bd (l376.set a369 (⟨e380.Has, e380.Most, e380.Side, e380.Gas, v379⟩ : SCargoTank)) fun (l381 : List SCargoTank) => (bif (decide (op1.Kind = (5 : Int))) then chk (decide (a369 < l381.length)) ((bd (w64 ((10 : Int) * op1.Many)) fun (v382 : Int) => (bd (w64 ((l381.getD a369 dSCargoTank).Air + v382)) fun (v383 : Int) => chk (decide (a369 < l381.length)) ((bd (l381.getD a369 dSCargoTank) fun (e384 : SCargoTank) => (bd (l381.set a369 (⟨e384.Has, e384.Most, e384.Side, e384.Gas, v383⟩ : SCargoTank)) fun (l385 : List SCargoTank) => chk (decide (a369 < l385.length)) ((bd (l385.getD a369 dSCargoTank) fun (e395 : SCargoTank) => (impl_CargoTank_mayBurn n e395).bind fun r396 => (bif r396 then some (t370, (4 : Int)) else (bif (decide (op1.Kind = (3 : Int))) then none else impl_CargoStep_k1 n  list0 lean2 t370 l385)))))))))) else chk (decide (a369 < l381.length)) ((bd (l381.getD a369 dSCargoTank) fun (e404 : SCargoTank) => (impl_CargoTank_mayBurn n e404).bind fun r405 => (bif r405 then some (t370, (4 : Int)) else (bif (decide (op1.Kind = (3 : Int))) then none else impl_CargoStep_k1 n  list0 lean2 t370 l381)))))))))))))))))))
def impl_CargoStep_k14 (n : Nat)  (list0 : List SCargoTank) (lean2 : Int) (op1 : SCargoOp) (t21 : List SCargoTank) : Option (List SCargoTank × Int) :=
  (impl_own_impl_CargoTank n list0).bind fun r22 => ix op1.A r22.length ((bif (decide (op1.Kind = (1 : Int))) then impl_CargoStep_k5 n  list0 lean2 op1.A.toNat op1.A.toNat op1 t21 r22 else (bif (decide (op1.Kind = (2 : Int))) then impl_CargoStep_k8 n  list0 lean2 op1.A.toNat op1.A.toNat op1 t21 r22 else (bif (decide (op1.Kind = (3 : Int))) then ix op1.B r22.length (chk (decide (op1.A.toNat < r22.length)) (impl_CargoStep_k12 n  list0 lean2 op1.A.toNat op1.A.toNat op1.B.toNat (decide ((r22.getD op1.A.toNat dSCargoTank).Has < op1.Many)) op1 t21 r22)) else impl_CargoStep_k13 n  list0 lean2 op1.A.toNat op1 t21 r22))))
def impl_CargoStep_k15 (n : Nat)  (list0 : List SCargoTank) (lean2 : Int) (n5 : Int) (op1 : SCargoOp) (t6 : List SCargoTank) : Option (List SCargoTank × Int) :=
  (impl_TanksOk n list0).bind fun r7 => (bif (!r7) then some (t6, (1 : Int)) else (impl_in n op1.Kind (1 : Int) (5 : Int)).bind fun r9 => (bif (!r9) then some (t6, (1 : Int)) else (impl_in n op1.A (0 : Int) n5).bind fun r11 => (bif (!r11) then some (t6, (1 : Int)) else (impl_in n op1.Many (1 : Int) (100 : Int)).bind fun r13 => (bif (!r13) then some (t6, (1 : Int)) else (bif (decide (op1.Kind = (3 : Int))) then (impl_in n op1.B (0 : Int) n5).bind fun r15 => (bif (!r15) then some (t6, (1 : Int)) else (bif (decide (op1.B = op1.A)) then some (t6, (1 : Int)) else (impl_in n lean2 (0 : Int) (100000000 : Int)).bind fun r18 => (bif (!r18) then some (t6, (1 : Int)) else impl_CargoStep_k14 n  list0 lean2 op1 t6))) else (impl_in n lean2 (0 : Int) (100000000 : Int)).bind fun r456 => (bif (!r456) then some (t6, (1 : Int)) else impl_CargoStep_k14 n  list0 lean2 op1 t6))))))
def impl_CargoStep_k16 (n : Nat)  (list0 : List SCargoTank) (lean2 : Int) (a503 : Nat) (to504 : Nat) (op1 : SCargoOp) (t505 : List SCargoTank) (t506 : List SCargoTank) : Option (List SCargoTank × Int) :=
  chk (decide (to504 < t506.length)) ((bd (w64 ((t506.getD to504 dSCargoTank).Has + op1.Many)) fun (v507 : Int) => chk (decide (to504 < t506.length)) ((bd (t506.getD to504 dSCargoTank) fun (e508 : SCargoTank) => (bd (t506.set to504 (⟨v507, e508.Most, e508.Side, e508.Gas, e508.Air⟩ : SCargoTank)) fun (l509 : List SCargoTank) => impl_CargoStep_k2 n  list0 lean2 a503 to504 op1 t505 l509)))))
def impl_CargoStep_k17 (n : Nat)  (list0 : List SCargoTank) (lean2 : Int) (a489 : Nat) (to490 : Nat) (op1 : SCargoOp) (t491 : List SCargoTank) (t492 : List SCargoTank) : Option (List SCargoTank × Int) :=
  chk (decide (to490 < t492.length)) ((bd (w64 ((t492.getD to490 dSCargoTank).Has + op1.Many)) fun (v493 : Int) => chk (decide (to490 < t492.length)) ((bif (decide (v493 > (t492.getD to490 dSCargoTank).Most)) then some (t491, (3 : Int)) else impl_CargoStep_k16 n  list0 lean2 a489 to490 op1 t491 t492))))
def impl_CargoStep_k18 (n : Nat)  (list0 : List SCargoTank) (lean2 : Int) (a551 : Nat) (from552 : Nat) (op1 : SCargoOp) (t553 : List SCargoTank) (t554 : List SCargoTank) : Option (List SCargoTank × Int) :=
  chk (decide (from552 < t554.length)) ((impl_CargoTank_out n t554 from552 op1.Many).bind fun r555 => chk (decide (r555.length = t554.length)) (chk (decide (a551 < r555.length)) ((bd (r555.getD a551 dSCargoTank) fun (e590 : SCargoTank) => (impl_CargoTank_mayBurn n e590).bind fun r591 => (bif r591 then some (t553, (4 : Int)) else (bif (decide (op1.Kind = (3 : Int))) then none else impl_CargoStep_k6 n  list0 lean2 t553 r555))))))
def impl_CargoStep_k19 (n : Nat)  (list0 : List SCargoTank) (lean2 : Int) (a647 : Nat) (to648 : Nat) (op1 : SCargoOp) (t649 : List SCargoTank) (t650 : List SCargoTank) : Option (List SCargoTank × Int) :=
  chk (decide (to648 < t650.length)) ((bd (w64 ((t650.getD to648 dSCargoTank).Has + op1.Many)) fun (v651 : Int) => chk (decide (to648 < t650.length)) ((bd (t650.getD to648 dSCargoTank) fun (e652 : SCargoTank) => (bd (t650.set to648 (⟨v651, e652.Most, e652.Side, e652.Gas, e652.Air⟩ : SCargoTank)) fun (l653 : List SCargoTank) => impl_CargoStep_k9 n  list0 lean2 a647 to648 op1 t649 l653)))))
def impl_CargoStep_k20 (n : Nat)  (list0 : List SCargoTank) (lean2 : Int) (a628 : Nat) (from629 : Nat) (to630 : Nat) (t631 : Bool) (op1 : SCargoOp) (t632 : List SCargoTank) (t633 : List SCargoTank) : Option (List SCargoTank × Int) :=
  (bif t631 then some (t632, (2 : Int)) else chk (decide (to630 < t633.length)) ((bd (w64 ((t633.getD to630 dSCargoTank).Has + op1.Many)) fun (v634 : Int) => chk (decide (to630 < t633.length)) ((bif (decide (v634 > (t633.getD to630 dSCargoTank).Most)) then some (t632, (3 : Int)) else chk (decide (from629 < t633.length)) ((impl_CargoTank_out n t633 from629 op1.Many).bind fun r676 => chk (decide (r676.length = t633.length)) (impl_CargoStep_k19 n  list0 lean2 a628 to630 op1 t632 r676)))))))
def impl_CargoStep_k21 (n : Nat)  (list0 : List SCargoTank) (lean2 : Int) (op1 : SCargoOp) (t483 : List SCargoTank) : Option (List SCargoTank × Int) :=
  (impl_own_impl_CargoTank n list0).bind fun r484 => ix op1.A r484.length ((bif (decide (op1.Kind = (1 : Int))) then impl_CargoStep_k17 n  list0 lean2 op1.A.toNat op1.A.toNat op1 t483 r484 else (bif (decide (op1.Kind = (2 : Int))) then chk (decide (op1.A.toNat < r484.length)) ((bif (decide ((r484.getD op1.A.toNat dSCargoTank).Has < op1.Many)) then some (t483, (2 : Int)) else impl_CargoStep_k18 n  list0 lean2 op1.A.toNat op1.A.toNat op1 t483 r484)) else (bif (decide (op1.Kind = (3 : Int))) then ix op1.B r484.length (chk (decide (op1.A.toNat < r484.length)) (impl_CargoStep_k20 n  list0 lean2 op1.A.toNat op1.A.toNat op1.B.toNat (decide ((r484.getD op1.A.toNat dSCargoTank).Has < op1.Many)) op1 t483 r484)) else chk (decide (op1.A.toNat < r484.length)) ((bd (r484.getD op1.A.toNat dSCargoTank) fun (e807 : SCargoTank) => (impl_CargoTank_mayBurn n e807).bind fun r808 => (bif r808 then some (t483, (4 : Int)) else (bif (decide (op1.Kind = (3 : Int))) then none else impl_CargoStep_k1 n  list0 lean2 t483 r484))))))))
def impl_CargoStep_k22 (n : Nat)  (list0 : List SCargoTank) (lean2 : Int) (n467 : Int) (op1 : SCargoOp) (t468 : List SCargoTank) : Option (List SCargoTank × Int) :=
  (impl_TanksOk n list0).bind fun r469 => (bif (!r469) then some (t468, (1 : Int)) else (impl_in n op1.Kind (1 : Int) (5 : Int)).bind fun r471 => (bif (!r471) then some (t468, (1 : Int)) else (impl_in n op1.A (0 : Int) n467).bind fun r473 => (bif (!r473) then some (t468, (1 : Int)) else (impl_in n op1.Many (1 : Int) (100000 : Int)).bind fun r475 => (bif (!r475) then some (t468, (1 : Int)) else (bif (decide (op1.Kind = (3 : Int))) then (impl_in n op1.B (0 : Int) n467).bind fun r477 => (bif (!r477) then some (t468, (1 : Int)) else (bif (decide (op1.B = op1.A)) then some (t468, (1 : Int)) else (impl_in n lean2 (0 : Int) (100000000 : Int)).bind fun r480 => (bif (!r480) then some (t468, (1 : Int)) else impl_CargoStep_k21 n  list0 lean2 op1 t468))) else (impl_in n lean2 (0 : Int) (100000000 : Int)).bind fun r814 => (bif (!r814) then some (t468, (1 : Int)) else impl_CargoStep_k21 n  list0 lean2 op1 t468))))))
def impl_CargoStep (n : Nat) (list0 : List SCargoTank) (op1 : SCargoOp) (lean2 : Int) : Option (List SCargoTank × Int) :=
  (impl_own_impl_CargoTank n list0).bind fun r1 => (bd (w64 ((list0.length : Int) - (1 : Int))) fun (v2 : Int) => (bif (decide (op1.Kind = (4 : Int))) then impl_CargoStep_k15 n  list0 lean2 v2 op1 r1 else (bif (decide (op1.Kind = (5 : Int))) then impl_CargoStep_k15 n  list0 lean2 v2 op1 r1 else impl_CargoStep_k22 n  list0 lean2 v2 op1 r1)))
def impl_own_int (n : Nat) (l0 : List Int) : Option (List Int) :=
  chk (decide ((0 : Int) ≤ (l0.length : Int))) (chk (decide ((l0.length : Int) ≤ 9223372036854775807 ∧ (l0.length : Int) * (8 : Int) ≤ 281474976710656)) (chk (decide (l0.length * 8 ≤ 140737488355328)) (some (l0))))
def impl_CargoRun_L6 {R : Type} (n : Nat) (kx0 : List SCargoTank → List Int → Option R) (J : Int → List SCargoTank → List Int → Option R) (lean3 : Int) (t4 : List SCargoOp) (t5 : Int) (t6 : Int) (l7 : List SCargoTank) (codes8 : List Int) : Option R :=
  (bif (decide (t6 < t5)) then ix t6 t4.length ((bd (t4.getD t6.toNat dSCargoOp) fun (e14 : SCargoOp) => (impl_CargoStep n l7 e14 lean3).bind fun r15 => chk (decide ((codes8 ++ [r15.2]).length * 8 ≤ 140737488355328)) (J (w64 (t6 + (1 : Int))) r15.1 (codes8 ++ [r15.2])))) else kx0 l7 codes8)
def impl_CargoRun (n : Nat) (list0 : List SCargoTank) (ops1 : List SCargoOp) (lean2 : Int) : Option (List SCargoTank × List Int) :=
  (impl_own_impl_CargoTank n list0).bind fun r1 => (bif (decide ((ops1.length : Int) > (100 : Int))) then some (r1, []) else loopN (fun (x : Int × List SCargoTank × List Int) J' => impl_CargoRun_L6 n (fun l22 codes23 => (impl_own_int n codes23).bind fun r24 => some (l22, r24)) (fun t25 l26 codes27 => J' (t25, l26, codes27)) lean2 ops1 (ops1.length : Int) x.1 x.2.1 x.2.2) n ((0 : Int), r1, []))
def laws_eqCargoTank (n : Nat) (a0 : SCargoTank) (b1 : SCargoTank) : Option Bool :=
  (bif (!(decide (a0.Has = b1.Has))) then some (false) else (bif (!(decide (a0.Most = b1.Most))) then some (false) else (bif (!(decide (a0.Side = b1.Side))) then some (false) else (bif (!(decide (a0.Gas = b1.Gas))) then some (false) else (bif (!(decide (a0.Air = b1.Air))) then some (false) else some (true))))))
def laws_eqCargoTankS_L4 {R : Type} (n : Nat) (kx0 : Option R) (kxr : Bool → Option R) (J : Int → Option R) (a1 : List SCargoTank) (b2 : List SCargoTank) (i3 : Int) : Option R :=
  (bif (decide (i3 < (a1.length : Int))) then ix i3 a1.length ((bd (a1.getD i3.toNat dSCargoTank) fun (e9 : SCargoTank) => ix i3 b2.length ((bd (b2.getD i3.toNat dSCargoTank) fun (e10 : SCargoTank) => (laws_eqCargoTank n e9 e10).bind fun r11 => (bif (!r11) then kxr false else J (w64 (i3 + (1 : Int)))))))) else kx0)
def laws_eqCargoTankS (n : Nat) (a0 : List SCargoTank) (b1 : List SCargoTank) : Option Bool :=
  (bif (!(decide ((a0.length : Int) = (b1.length : Int)))) then some (false) else loopN (fun (x : Int) J' => laws_eqCargoTankS_L4 n (some (true)) (fun t15 => some (t15)) J' a0 b1 x) n ((0 : Int)))
def laws_eqIntS_L4 {R : Type} (n : Nat) (kx0 : Option R) (kxr : Bool → Option R) (J : Int → Option R) (a1 : List Int) (b2 : List Int) (i3 : Int) : Option R :=
  (bif (decide (i3 < (a1.length : Int))) then ix i3 a1.length (ix i3 b2.length ((bif (!(decide ((a1.getD i3.toNat (0 : Int)) = (b2.getD i3.toNat (0 : Int))))) then kxr false else J (w64 (i3 + (1 : Int)))))) else kx0)
def laws_eqIntS (n : Nat) (a0 : List Int) (b1 : List Int) : Option Bool :=
  (bif (!(decide ((a0.length : Int) = (b1.length : Int)))) then some (false) else loopN (fun (x : Int) J' => laws_eqIntS_L4 n (some (true)) (fun t9 => some (t9)) J' a0 b1 x) n ((0 : Int)))
def laws_eqCargoOp (n : Nat) (a0 : SCargoOp) (b1 : SCargoOp) : Option Bool :=
  (bif (!(decide (a0.Kind = b1.Kind))) then some (false) else (bif (!(decide (a0.A = b1.A))) then some (false) else (bif (!(decide (a0.B = b1.B))) then some (false) else (bif (!(decide (a0.Many = b1.Many))) then some (false) else some (true)))))
def laws_eqCargoOpS_L4 {R : Type} (n : Nat) (kx0 : Option R) (kxr : Bool → Option R) (J : Int → Option R) (a1 : List SCargoOp) (b2 : List SCargoOp) (i3 : Int) : Option R :=
  (bif (decide (i3 < (a1.length : Int))) then ix i3 a1.length ((bd (a1.getD i3.toNat dSCargoOp) fun (e9 : SCargoOp) => ix i3 b2.length ((bd (b2.getD i3.toNat dSCargoOp) fun (e10 : SCargoOp) => (laws_eqCargoOp n e9 e10).bind fun r11 => (bif (!r11) then kxr false else J (w64 (i3 + (1 : Int)))))))) else kx0)
def laws_eqCargoOpS (n : Nat) (a0 : List SCargoOp) (b1 : List SCargoOp) : Option Bool :=
  (bif (!(decide ((a0.length : Int) = (b1.length : Int)))) then some (false) else loopN (fun (x : Int) J' => laws_eqCargoOpS_L4 n (some (true)) (fun t15 => some (t15)) J' a0 b1 x) n ((0 : Int)))
def laws_markCargoTankS_k0 {R : Type} (n : Nat) (kx0 : Int → List SCargoTank → Option R) (J : Int → Int → List SCargoTank → Option R) (k4 : Int) (i5 : Int) (p6 : List SCargoTank) : Option R :=
  ix i5 p6.length (chk (decide (i5.toNat < p6.length)) ((bd (p6.getD i5.toNat dSCargoTank) fun (e7 : SCargoTank) => (bd (p6.set i5.toNat (⟨k4, e7.Most, e7.Side, e7.Gas, e7.Air⟩ : SCargoTank)) fun (l8 : List SCargoTank) => ix i5 l8.length (chk (decide (i5.toNat < l8.length)) ((bd (l8.getD i5.toNat dSCargoTank) fun (e9 : SCargoTank) => (bd (l8.set i5.toNat (⟨e9.Has, (w64 (k4 + (1 : Int))), e9.Side, e9.Gas, e9.Air⟩ : SCargoTank)) fun (l10 : List SCargoTank) => (bd (w64 ((w64 (k4 + (1 : Int))) + (1 : Int))) fun (v11 : Int) => ix i5 l10.length (chk (decide (i5.toNat < l10.length)) ((bd (l10.getD i5.toNat dSCargoTank) fun (e12 : SCargoTank) => (bd (l10.set i5.toNat (⟨e12.Has, e12.Most, v11, e12.Gas, e12.Air⟩ : SCargoTank)) fun (l13 : List SCargoTank) => ix i5 l13.length (chk (decide (i5.toNat < l13.length)) ((bd (l13.getD i5.toNat dSCargoTank) fun (e14 : SCargoTank) => (bd (l13.set i5.toNat (⟨e14.Has, e14.Most, e14.Side, (w64 (v11 + (1 : Int))), e14.Air⟩ : SCargoTank)) fun (l15 : List SCargoTank) => (bd (w64 ((w64 (v11 + (1 : Int))) + (1 : Int))) fun (v16 : Int) => ix i5 l15.length (chk (decide (i5.toNat < l15.length)) ((bd (l15.getD i5.toNat dSCargoTank) fun (e17 : SCargoTank) => (bd (l15.set i5.toNat (⟨e17.Has, e17.Most, e17.Side, e17.Gas, v16⟩ : SCargoTank)) fun (l18 : List SCargoTank) => J (w64 (v16 + (1 : Int))) (w64 (i5 + (1 : Int))) l18))))))))))))))))))))))
def laws_markCargoTankS_L2 {R : Type} (n : Nat) (kx0 : Int → List SCargoTank → Option R) (J : Int → Int → List SCargoTank → Option R) (k1 : Int) (i2 : Int) (p3 : List SCargoTank) : Option R :=
  (bif (decide (i2 < (p3.length : Int))) then laws_markCargoTankS_k0 n kx0 J k1 i2 p3 else kx0 k1 p3)
def laws_markCargoTankS (n : Nat) (a0 : List SCargoTank) (k1 : Int) : Option (Int × List SCargoTank) :=
  loopN (fun (x : Int × Int × List SCargoTank) J' => laws_markCargoTankS_L2 n (fun k19 p20 => some (k19, p20)) (fun k21 i22 p23 => J' (k21, i22, p23)) x.1 x.2.1 x.2.2) n (k1, (0 : Int), a0)
def laws_markCargoOpS_k0 {R : Type} (n : Nat) (kx0 : Int → List SCargoOp → Option R) (J : Int → Int → List SCargoOp → Option R) (k4 : Int) (i5 : Int) (p6 : List SCargoOp) : Option R :=
  ix i5 p6.length (chk (decide (i5.toNat < p6.length)) ((bd (p6.getD i5.toNat dSCargoOp) fun (e7 : SCargoOp) => (bd (p6.set i5.toNat (⟨k4, e7.A, e7.B, e7.Many⟩ : SCargoOp)) fun (l8 : List SCargoOp) => ix i5 l8.length (chk (decide (i5.toNat < l8.length)) ((bd (l8.getD i5.toNat dSCargoOp) fun (e9 : SCargoOp) => (bd (l8.set i5.toNat (⟨e9.Kind, (w64 (k4 + (1 : Int))), e9.B, e9.Many⟩ : SCargoOp)) fun (l10 : List SCargoOp) => (bd (w64 ((w64 (k4 + (1 : Int))) + (1 : Int))) fun (v11 : Int) => ix i5 l10.length (chk (decide (i5.toNat < l10.length)) ((bd (l10.getD i5.toNat dSCargoOp) fun (e12 : SCargoOp) => (bd (l10.set i5.toNat (⟨e12.Kind, e12.A, v11, e12.Many⟩ : SCargoOp)) fun (l13 : List SCargoOp) => ix i5 l13.length (chk (decide (i5.toNat < l13.length)) ((bd (l13.getD i5.toNat dSCargoOp) fun (e14 : SCargoOp) => (bd (l13.set i5.toNat (⟨e14.Kind, e14.A, e14.B, (w64 (v11 + (1 : Int)))⟩ : SCargoOp)) fun (l15 : List SCargoOp) => (bd (w64 ((w64 (v11 + (1 : Int))) + (1 : Int))) fun (v16 : Int) => J v16 (w64 (i5 + (1 : Int))) l15))))))))))))))))))
def laws_markCargoOpS_L2 {R : Type} (n : Nat) (kx0 : Int → List SCargoOp → Option R) (J : Int → Int → List SCargoOp → Option R) (k1 : Int) (i2 : Int) (p3 : List SCargoOp) : Option R :=
  (bif (decide (i2 < (p3.length : Int))) then laws_markCargoOpS_k0 n kx0 J k1 i2 p3 else kx0 k1 p3)
def laws_markCargoOpS (n : Nat) (a0 : List SCargoOp) (k1 : Int) : Option (Int × List SCargoOp) :=
  loopN (fun (x : Int × Int × List SCargoOp) J' => laws_markCargoOpS_L2 n (fun k17 p18 => some (k17, p18)) (fun k19 i20 p21 => J' (k19, i20, p21)) x.1 x.2.1 x.2.2) n (k1, (0 : Int), a0)
def laws_markIntS_L2 {R : Type} (n : Nat) (kx0 : Int → List Int → Option R) (J : Int → Int → List Int → Option R) (k1 : Int) (i2 : Int) (p3 : List Int) : Option R :=
  (bif (decide (i2 < (p3.length : Int))) then ix i2 p3.length (chk (decide (i2.toNat < p3.length)) (J (w64 (k1 + (1 : Int))) (w64 (i2 + (1 : Int))) (p3.set i2.toNat k1))) else kx0 k1 p3)
def laws_markIntS (n : Nat) (a0 : List Int) (k1 : Int) : Option (Int × List Int) :=
  loopN (fun (x : Int × Int × List Int) J' => laws_markIntS_L2 n (fun k7 p8 => some (k7, p8)) (fun k9 i10 p11 => J' (k9, i10, p11)) x.1 x.2.1 x.2.2) n (k1, (0 : Int), a0)
def laws_heldCargoTankS_k0 {R : Type} (n : Nat) (kx0 : Int → Option R) (kxr : Int → Option R) (J : Int → Int → Option R) (a1 : List SCargoTank) (k13 : Int) (i14 : Int) : Option R :=
  ix i14 a1.length ((bd (a1.getD i14.toNat dSCargoTank) fun (e15 : SCargoTank) => (bif (!(decide (e15.Gas = (w64 (k13 + (1 : Int)))))) then kxr (-1 : Int) else (bd (w64 ((w64 (k13 + (1 : Int))) + (1 : Int))) fun (v26 : Int) => ix i14 a1.length ((bd (a1.getD i14.toNat dSCargoTank) fun (e27 : SCargoTank) => (bif (!(decide (e27.Air = v26))) then kxr (-1 : Int) else J (w64 (v26 + (1 : Int))) (w64 (i14 + (1 : Int))))))))))
def laws_heldCargoTankS_k1 {R : Type} (n : Nat) (kx0 : Int → Option R) (kxr : Int → Option R) (J : Int → Int → Option R) (a1 : List SCargoTank) (k7 : Int) (i8 : Int) : Option R :=
  ix i8 a1.length ((bd (a1.getD i8.toNat dSCargoTank) fun (e9 : SCargoTank) => (bif (!(decide (e9.Most = (w64 (k7 + (1 : Int)))))) then kxr (-1 : Int) else (bd (w64 ((w64 (k7 + (1 : Int))) + (1 : Int))) fun (v32 : Int) => ix i8 a1.length ((bd (a1.getD i8.toNat dSCargoTank) fun (e33 : SCargoTank) => (bif (!(decide (e33.Side = v32))) then kxr (-1 : Int) else laws_heldCargoTankS_k0 n kx0 kxr J a1 v32 i8)))))))
def laws_heldCargoTankS_L2 {R : Type} (n : Nat) (kx0 : Int → Option R) (kxr : Int → Option R) (J : Int → Int → Option R) (a1 : List SCargoTank) (k2 : Int) (i3 : Int) : Option R :=
  (bif (decide (i3 < (a1.length : Int))) then ix i3 a1.length ((bd (a1.getD i3.toNat dSCargoTank) fun (e36 : SCargoTank) => (bif (!(decide (e36.Has = k2))) then kxr (-1 : Int) else laws_heldCargoTankS_k1 n kx0 kxr J a1 k2 i3))) else kx0 k2)
def laws_heldCargoTankS (n : Nat) (a0 : List SCargoTank) (k1 : Int) : Option Int :=
  loopN (fun (x : Int × Int) J' => laws_heldCargoTankS_L2 n (fun k39 => some (k39)) (fun t40 => some (t40)) (fun k41 i42 => J' (k41, i42)) a0 x.1 x.2) n (k1, (0 : Int))
def laws_heldIntS_L2 {R : Type} (n : Nat) (kx0 : Int → Option R) (kxr : Int → Option R) (J : Int → Int → Option R) (a1 : List Int) (k2 : Int) (i3 : Int) : Option R :=
  (bif (decide (i3 < (a1.length : Int))) then ix i3 a1.length ((bif (!(decide ((a1.getD i3.toNat (0 : Int)) = k2))) then kxr (-1 : Int) else J (w64 (k2 + (1 : Int))) (w64 (i3 + (1 : Int))))) else kx0 k2)
def laws_heldIntS (n : Nat) (a0 : List Int) (k1 : Int) : Option Int :=
  loopN (fun (x : Int × Int) J' => laws_heldIntS_L2 n (fun k16 => some (k16)) (fun t17 => some (t17)) (fun k18 i19 => J' (k18, i19)) a0 x.1 x.2) n (k1, (0 : Int))
def laws_FnExactCargoRun_k0 (n : Nat)  (m97 : Int) (t98 : Bool) (t99 : List SCargoTank) (t100 : List Int) : Option Bool :=
  (bif t98 then some (false) else (laws_heldCargoTankS n t99 (1 : Int)).bind fun r114 => (bif (decide (r114 < (0 : Int))) then some (false) else (laws_heldIntS n t100 r114).bind fun r118 => (bif (decide (r118 < (0 : Int))) then some (false) else (bif (!(decide (r118 = m97))) then some (false) else some (true)))))
def laws_FnExactCargoRun_k1 (n : Nat)  (aList0 : List SCargoTank) (aOps1 : List SCargoOp) (aLean2 : Int) (m78 : Int) (q79 : Int) (t80 : List SCargoTank) (t81 : List Int) (t82 : List SCargoTank) (t83 : List Int) : Option Bool :=
  (bif (!(decide (q79 = m78))) then some (false) else (laws_toCargoTankS n aList0).bind fun r121 => (laws_toCargoOpS n aOps1).bind fun r122 => (impl_CargoRun n r121 r122 aLean2).bind fun r123 => (laws_eqCargoTankS n r123.1 t80).bind fun r124 => (bif (!r124) then some (false) else (laws_eqIntS n r123.2 t81).bind fun r128 => laws_FnExactCargoRun_k0 n  m78 (!r128) t82 t83))
def laws_FnExactCargoRun_k2 (n : Nat)  (aList0 : List SCargoTank) (aOps1 : List SCargoOp) (aLean2 : Int) (t64 : List SCargoTank) (t65 : List Int) (t66 : List SCargoTank) (t67 : List Int) : Option Bool :=
  (laws_markCargoTankS n t66 (1 : Int)).bind fun r68 => (laws_markIntS n t67 r68.1).bind fun r69 => (laws_heldCargoTankS n r68.2 (1 : Int)).bind fun r70 => (bif (decide (r70 < (0 : Int))) then some (false) else (laws_heldIntS n r69.2 r70).bind fun r133 => (bif (decide (r133 < (0 : Int))) then some (false) else laws_FnExactCargoRun_k1 n  aList0 aOps1 aLean2 r69.1 r133 t64 t65 r68.2 r69.2))
def laws_FnExactCargoRun_k3 (n : Nat)  (aList0 : List SCargoTank) (aOps1 : List SCargoOp) (aLean2 : Int) (t41 : List SCargoTank) (t42 : List Int) (t43 : List SCargoTank) (t44 : List SCargoOp) (t45 : List SCargoTank) (t46 : List Int) : Option Bool :=
  (laws_markCargoTankS n t43 (1 : Int)).bind fun r47 => (laws_markCargoOpS n t44 r47.1).bind fun r48 => (bif (decide (r48.1 < (0 : Int))) then some (false) else (laws_eqCargoTankS n t45 t41).bind fun r53 => (bif (!r53) then some (false) else (laws_eqIntS n t46 t42).bind fun r58 => (bif (!r58) then some (false) else laws_FnExactCargoRun_k2 n  aList0 aOps1 aLean2 t41 t42 t45 t46)))
def laws_FnExactCargoRun_k4 (n : Nat)  (aList0 : List SCargoTank) (aOps1 : List SCargoOp) (aLean2 : Int) (t18 : Bool) (t19 : List SCargoTank) (t20 : List Int) (t21 : List SCargoTank) (t22 : List SCargoOp) (t23 : List SCargoTank) (t24 : List Int) : Option Bool :=
  (bif t18 then some (false) else (laws_toCargoTankS n aList0).bind fun r152 => (laws_eqCargoTankS n t21 r152).bind fun r153 => (bif (!r153) then some (false) else (laws_toCargoOpS n aOps1).bind fun r160 => (laws_eqCargoOpS n t22 r160).bind fun r161 => (bif (!r161) then some (false) else laws_FnExactCargoRun_k3 n  aList0 aOps1 aLean2 t19 t20 t21 t22 t23 t24)))
def laws_FnExactCargoRun_k5 (n : Nat)  (aList0 : List SCargoTank) (aOps1 : List SCargoOp) (aLean2 : Int) : Option Bool :=
  (laws_toCargoTankS n aList0).bind fun r4 => (laws_toCargoOpS n aOps1).bind fun r5 => (spec_CargoRun n r4 r5 aLean2).bind fun r6 => (laws_toCargoTankS n aList0).bind fun r7 => (laws_toCargoOpS n aOps1).bind fun r8 => (impl_CargoRun n r7 r8 aLean2).bind fun r9 => (laws_eqCargoTankS n r9.1 r6.1).bind fun r10 => (bif (!r10) then some (false) else (laws_eqIntS n r9.2 r6.2).bind fun r17 => laws_FnExactCargoRun_k4 n  aList0 aOps1 aLean2 (!r17) r6.1 r6.2 r7 r8 r9.1 r9.2)
def laws_FnExactCargoRun (n : Nat) (aList0 : List SCargoTank) (aOps1 : List SCargoOp) (aLean2 : Int) : Option Bool :=
  (laws_szCargoTankS n aList0 (1048576 : Int)).bind fun r1 => (bif (decide (r1 < (0 : Int))) then some (true) else (laws_szCargoOpS n aOps1 r1).bind fun r168 => (bif (decide (r168 < (0 : Int))) then some (true) else laws_FnExactCargoRun_k5 n  aList0 aOps1 aLean2))
def rng (a b x : Int) : Prop := a ≤ x ∧ x ≤ b
def wfSCargoTank (x : SCargoTank) : Prop := rng (-9223372036854775808) 9223372036854775807 x.Has ∧ rng (-9223372036854775808) 9223372036854775807 x.Most ∧ rng (-9223372036854775808) 9223372036854775807 x.Side ∧ rng (-9223372036854775808) 9223372036854775807 x.Gas ∧ rng (-9223372036854775808) 9223372036854775807 x.Air
def wfSCargoOp (x : SCargoOp) : Prop := rng (-9223372036854775808) 9223372036854775807 x.Kind ∧ rng (-9223372036854775808) 9223372036854775807 x.A ∧ rng (-9223372036854775808) 9223372036854775807 x.B ∧ rng (-9223372036854775808) 9223372036854775807 x.Many
end Go.Sm
end

section
set_option linter.unusedSimpArgs false
set_option linter.deprecated false
set_option linter.unusedSectionVars false
set_option linter.unusedVariables false
namespace Go.Sm
/-! ### Of the words that printed functions are made of -/
theorem w64_id {x : Int} (h1 : -9223372036854775808 ≤ x) (h2 : x ≤ 9223372036854775807) : w64 x = x := by
  show (let m := x % (2 ^ 64 : Int); if (true && decide ((2 : Int) ^ 63 ≤ m)) = true then m - 2 ^ 64 else m) = x
  simp only [Bool.true_and, decide_eq_true_eq]
  split <;> omega
theorem w64_rng (x : Int) : -9223372036854775808 ≤ w64 x ∧ w64 x ≤ 9223372036854775807 := by
  show -9223372036854775808 ≤ (let m := x % (2 ^ 64 : Int); if (true && decide ((2 : Int) ^ 63 ≤ m)) = true then m - 2 ^ 64 else m) ∧ (let m := x % (2 ^ 64 : Int); if (true && decide ((2 : Int) ^ 63 ≤ m)) = true then m - 2 ^ 64 else m) ≤ 9223372036854775807
  simp only [Bool.true_and, decide_eq_true_eq]
  split <;> omega
theorem chk_of {R : Type} {b : Bool} {x : Option R} (h : b = true) : chk b x = x := by rw [h]; rfl
theorem chk_true {R : Type} {x : Option R} : chk true x = x := rfl
theorem chk_dec {R : Type} {p : Prop} [Decidable p] {x : Option R} (h : p) : chk (decide p) x = x := chk_of (decide_eq_true h)
theorem ix_of {R : Type} {i : Int} {len : Nat} {x : Option R} (h0 : 0 ≤ i) (h1 : i < (len : Int)) : ix i len x = x := by
  unfold ix
  rw [decide_eq_true h0, decide_eq_true h1]
  rfl
theorem ix_nat {R : Type} {i len : Nat} {x : Option R} (h1 : i < len) : ix (i : Int) len x = x := ix_of (by omega) (by omega)
theorem bif_dec {α : Type} {p : Prop} [Decidable p] {x y : α} : (bif decide p then x else y) = if p then x else y := by
  by_cases h : p <;> simp [h]
theorem bif_not {α : Type} {b : Bool} {x y : α} : (bif !b then x else y) = bif b then y else x := by cases b <;> rfl
theorem bif_and {α : Type} {a b : Bool} {x y : α} : (bif a && b then x else y) = bif a then (bif b then x else y) else y := by cases a <;> rfl
theorem loopN_succ {X R : Type} (b : X → (X → Option R) → Option R) (m : Nat) (x : X) : loopN b (m + 1) x = b x (loopN b m) := rfl
/-- What holds of a loop: by what is left to go. -/
theorem loopN_ind {X R : Type} {b : X → (X → Option R) → Option R} (μ : X → Nat) (I : X → Prop) (Q : X → Option R → Prop)
    (h : ∀ x J, I x → (∀ y, I y → μ y < μ x → Q y (J y)) → Q x (b x J)) : ∀ n x, I x → μ x < n → Q x (loopN b n x)
  | 0, x, hi, hm => absurd hm (Nat.not_lt_zero _)
  | n + 1, x, hi, hm => h x (loopN b n) hi fun y hy hl => loopN_ind μ I Q h n y hy (by omega)
theorem getD_eq {α : Type} {l : List α} {i : Nat} {d : α} (h : i < l.length) : l.getD i d = l[i] := by
  simp [List.getD, h]
theorem w64_succ {k : Nat} (h : k < 9223372036854775807) : w64 ((k : Int) + 1) = ((k + 1 : Nat) : Int) := by
  rw [w64_id (by omega) (by omega)]
  rfl
theorem take_succ_getD {α : Type} {l : List α} {i : Nat} {d : α} (h : i < l.length) : l.take (i + 1) = l.take i ++ [l.getD i d] := by
  rw [List.take_succ, getD_eq h, List.getElem?_eq_getElem h]
  rfl
theorem drop_getD {α : Type} {l : List α} {i : Nat} {d : α} (h : i < l.length) : l.drop i = l.getD i d :: l.drop (i + 1) := by
  rw [getD_eq h]
  exact List.drop_eq_getElem_cons h
theorem bd_eq {α β : Type} (e : α) (f : α → β) : bd e f = f e := rfl
theorem bd_set {α β : Type} {Q : β → Prop} {F : List α → β} {p : List α} {i : Nat} {x : α} (h : ∀ l : List α, l.length = p.length → Q (F l)) : Q (bd (p.set i x) F) := h _ (by simp)
theorem bd_is {α β : Type} {Q : β → Prop} {F : α → β} {e : α} (h : ∀ v : α, v = e → Q (F v)) : Q (bd e F) := h _ rfl
theorem bd_val {α β : Type} {Q : β → Prop} {F : α → β} {e : α} (h : ∀ v : α, Q (F v)) : Q (bd e F) := h _
theorem chk_q {R : Type} {Q : Option R → Prop} {b : Bool} {x : Option R} (h : b = true) (hx : Q x) : Q (chk b x) := by rw [chk_of h]; exact hx
theorem ix_q {R : Type} {Q : Option R → Prop} {i : Int} {len : Nat} {x : Option R} (h0 : 0 ≤ i) (h1 : i < (len : Int)) (hx : Q x) : Q (ix i len x) := by rw [ix_of h0 h1]; exact hx
theorem bd_upd {α β : Type} {Q : β → Prop} {F : List α → β} {p : List α} {i : Nat} {x d : α} (hi : i < p.length) (h : ∀ l : List α, l.length = p.length → l.getD i d = x → (∀ j, j ≠ i → l.getD j d = p.getD j d) → Q (F l)) : Q (bd (p.set i x) F) :=
  h _ (by simp) (by simp [List.getD, hi]) (fun j hj => by simp [List.getD, List.getElem?_set, Ne.symm hj])
/-- A list written from the front. -/
theorem set_take {α : Type} {a : List α} {d : α} {m k : Nat} (h : k < a.length) (hm : m = a.length := by rfl) : (a.take k ++ (List.replicate m d).drop k).set k (a.getD k d) = a.take (k + 1) ++ (List.replicate m d).drop (k + 1) := by
  subst hm
  have h1 : (a.take k).length = k := by simp; omega
  rw [List.set_append_right _ _ (by omega), h1, Nat.sub_self, take_succ_getD h, List.append_assoc]
  congr 1
  rw [List.drop_eq_getElem_cons (by simp; exact h)]
  rfl
/-! ### Loops over 0 .. len, by what is left -/
/-- Steps k, k+1, .. told one after the other; J: what comes behind a step. -/
def forK {S R : Type} (step : Nat → S → (S → Option R) → Option R) (fin : S → Option R) : Nat → Nat → S → Option R
  | 0, _, s => fin s
  | m + 1, k, s => step k s fun s' => forK step fin m (k + 1) s'
theorem loop_forK {X S R : Type} {b : X → (X → Option R) → Option R} {enc : Nat → S → X} {len : Nat} {step : Nat → S → (S → Option R) → Option R} {fin : S → Option R} (I : Nat → S → Prop)
    (hstep : ∀ k s J J', k < len → I k s → (∀ s', I (k + 1) s' → J (enc (k + 1) s') = J' s') → b (enc k s) J = step k s J') (hfin : ∀ s J, I len s → b (enc len s) J = fin s) :
    ∀ m k s n, k + m = len → m < n → I k s → loopN b n (enc k s) = forK step fin m k s
  | 0, k, s, 0, _, h, _ => absurd h (Nat.lt_irrefl _)
  | 0, k, s, n + 1, hk, _, hi => by
    have hk : k = len := by omega
    subst hk
    exact hfin s _ hi
  | m + 1, k, s, 0, _, h, _ => absurd h (Nat.not_lt_zero _)
  | m + 1, k, s, n + 1, hk, hn, hi => by
    show b (enc k s) (loopN b n) = step k s fun s' => forK step fin m (k + 1) s'
    exact hstep k s _ _ (by omega) hi fun s' hi' => loop_forK I hstep hfin m (k + 1) s' n (by omega) (by omega) hi'
/-- The first k at which f answers; at none: z. -/
def scanK {R : Type} (f : Nat → Option (Option R)) (z : Option R) : Nat → Nat → Option R
  | 0, _ => z
  | m + 1, k => match f k with
    | some r => r
    | none => scanK f z m (k + 1)
theorem loop_scan {X R : Type} {b : X → (X → Option R) → Option R} {enc : Nat → X} {len : Nat} {f : Nat → Option (Option R)} {z : Option R}
    (hstep : ∀ k J, k < len → b (enc k) J = match f k with | some r => r | none => J (enc (k + 1))) (hfin : ∀ J, b (enc len) J = z) :
    ∀ m k n, k + m = len → m < n → loopN b n (enc k) = scanK f z m k
  | 0, k, 0, _, h => absurd h (Nat.lt_irrefl _)
  | 0, k, n + 1, hk, _ => by
    have hk : k = len := by omega
    subst hk
    exact hfin _
  | m + 1, k, 0, _, h => absurd h (Nat.not_lt_zero _)
  | m + 1, k, n + 1, hk, hn => by
    show b (enc k) (loopN b n) = _
    rw [hstep k _ (by omega)]
    unfold scanK
    cases f k with
    | some r => rfl
    | none => exact loop_scan hstep hfin m (k + 1) n (by omega) (by omega)
/-- Is p so of all of k, .. k + m - 1? -/
theorem scan_all {R : Type} {p : Nat → Bool} {r z : Option R} : ∀ m k, scanK (fun k => bif p k then none else some r) z m k = bif (List.range' k m).all p then z else r
  | 0, k => rfl
  | m + 1, k => by
    rw [scanK, List.range'_succ, List.all_cons]
    cases h : p k with
    | true => simp only [cond_true, Bool.true_and]; exact scan_all m (k + 1)
    | false => rfl
theorem scan_any {R : Type} {p : Nat → Bool} {r z : Option R} : ∀ m k, scanK (fun k => bif p k then some r else none) z m k = bif (List.range' k m).any p then r else z
  | 0, k => rfl
  | m + 1, k => by
    rw [scanK, List.range'_succ, List.any_cons]
    cases h : p k with
    | false => simp only [cond_false, Bool.false_or]; exact scan_any m (k + 1)
    | true => rfl
theorem mgetI_mputI {β : Type} (l : List (Int × β)) (n m : Int) (v : β) : mgetI (mputI l n v) m = if m = n then some v else mgetI l m := by
  unfold mgetI mputI
  induction l with
  | nil =>
    by_cases h : m = n <;> simp [h]
  | cons a l ih =>
    rw [List.findIdx?_cons]
    by_cases h : n = a.1
    · simp only [h, decide_true, if_true, Option.elim_some, List.set_cons_zero, List.find?_cons]
      by_cases h2 : m = a.1
      · simp [h2]
      · simp [h2]
    · simp only [h, decide_false, Bool.false_eq_true, if_false]
      cases hf : l.findIdx? (fun e => decide (n = e.1)) with
      | none =>
        rw [hf] at ih
        simp only [Option.elim_none] at ih
        simp only [Option.map_none, Option.elim_none, List.cons_append, List.find?_cons]
        by_cases h2 : m = a.1
        · have : m ≠ n := fun e => h (e ▸ h2)
          simp [h2]
          simp [h2] at this
          simp [this]
        · simp only [h2, decide_false]
          exact ih
      | some i =>
        rw [hf] at ih
        simp only [Option.elim_some] at ih
        simp only [Option.map_some, Option.elim_some, List.set_cons_succ, List.find?_cons]
        by_cases h2 : m = a.1
        · have : m ≠ n := fun e => h (e ▸ h2)
          simp [h2]
          simp [h2] at this
          simp [this]
        · simp only [h2, decide_false]
          exact ih
theorem mgetI_nil {β : Type} (m : Int) : mgetI ([] : List (Int × β)) m = none := rfl
/-! ### Chains of tests -/
theorem bif_and' {α : Type} {a b : Bool} {x y : α} : (bif a then (bif b then x else y) else y) = bif a && b then x else y := by cases a <;> rfl
theorem bif_or' {α : Type} {a b : Bool} {x y : α} : (bif a then y else (bif b then x else y)) = bif !a && b then x else y := by cases a <;> rfl
theorem bif_and2 {α : Type} {a b : Bool} {x y : α} : (bif a then (bif b then y else x) else y) = bif a && !b then x else y := by cases a <;> cases b <;> rfl
theorem bif_or2 {α : Type} {a b : Bool} {x y : α} : (bif a then y else (bif b then y else x)) = bif !a && !b then x else y := by cases a <;> cases b <;> rfl
theorem bif_some {α β : Type} {a : Bool} {x y : α} {f : α → Option β} : (bif a then some x else some y).bind f = bif a then f x else f y := by cases a <;> rfl
theorem bif_tf {a : Bool} : (bif a then some true else some false) = some a := by cases a <;> rfl
theorem bif_ft {a : Bool} : (bif a then some false else some true) = some (!a) := by cases a <;> rfl
theorem bif_sf {a b : Bool} : (bif a then some b else some false) = some (a && b) := by cases a <;> rfl
theorem all_range_succ {p : Nat → Bool} {k : Nat} : (List.range (k + 1)).all p = ((List.range k).all p && p k) := by
  rw [List.range_succ, List.all_append]
  simp
theorem any_range_succ {p : Nat → Bool} {k : Nat} : (List.range (k + 1)).any p = ((List.range k).any p || p k) := by
  rw [List.range_succ, List.any_append]
  simp
theorem all_range_not {p : Nat → Bool} {k m : Nat} (hk : k < m) (h : p k = false) : (List.range m).all p = false := by
  rw [Bool.eq_false_iff]
  intro e
  rw [List.all_eq_true] at e
  rw [e k (List.mem_range.2 hk)] at h
  cases h
theorem any_range_of {p : Nat → Bool} {k m : Nat} (hk : k < m) (h : p k = true) : (List.range m).any p = true := by
  rw [List.any_eq_true]
  exact ⟨k, List.mem_range.2 hk, h⟩
/-- A loop that looks at k = 0, 1, .. and leaves at the first that is not so. -/
theorem loop_all {R : Type} {b : Int → (Int → Option R) → Option R} {len : Nat} {p : Nat → Bool} {no yes : Option R} (hlen : len ≤ 9223372036854775807)
    (hstep : ∀ (k : Nat) (J : Int → Option R), k < len → (∀ j, j < k → p j = true) → b (k : Int) J = bif p k then J ((k + 1 : Nat) : Int) else no) (hfin : ∀ J, (∀ j, j < len → p j = true) → b (len : Int) J = yes) {n : Nat} (hn : len < n) :
    loopN b n (0 : Int) = bif (List.range len).all p then yes else no := by
  refine loopN_ind (fun x => len - x.toNat) (fun x => ∃ k : Nat, k ≤ len ∧ x = (k : Int) ∧ (List.range k).all p = true) (fun x r => r = bif (List.range len).all p then yes else no) ?_ n _ ⟨0, by omega, rfl, rfl⟩ (by simp; omega)
  rintro _ J ⟨k, hk, rfl, hb⟩ ih
  have hb' : ∀ j, j < k → p j = true := fun j hj => List.all_eq_true.1 hb j (List.mem_range.2 hj)
  by_cases h : k < len
  · rw [hstep k J h hb']
    cases hp : p k with
    | true => exact ih _ ⟨k + 1, h, rfl, by rw [all_range_succ, hb, hp]; rfl⟩ (by simp; omega)
    | false => rw [all_range_not h hp]; rfl
  · have : k = len := by omega
    subst this
    rw [hfin _ hb', hb]
    rfl
/-- The same, a state turned on the way (its invariant: I). -/
theorem loop_allS {S R : Type} {X : Type} {enc : Int → S → X} {b : X → (X → Option R) → Option R} {len : Nat} {p : Nat → Bool} {I : Nat → S → Prop} {no yes : Option R}
    (hstep : ∀ (k : Nat) (s : S) (J : X → Option R), k < len → I k s → (∀ j, j < k → p j = true) → ∃ s', (p k = true → I (k + 1) s') ∧ b (enc (k : Int) s) J = bif p k then J (enc ((k + 1 : Nat) : Int) s') else no) (hfin : ∀ s J, I len s → (∀ j, j < len → p j = true) → b (enc (len : Int) s) J = yes) {n : Nat} (hn : len < n) {s0 : S} (h0 : I 0 s0) :
    loopN b n (enc (0 : Int) s0) = bif (List.range len).all p then yes else no := by
  have key : ∀ m (k : Nat) (s : S) n, k + m = len → m < n → I k s → (List.range k).all p = true → loopN b n (enc (k : Int) s) = bif (List.range len).all p then yes else no := by
    intro m
    induction m with
    | zero =>
      intro k s n hk hn hi hb
      have hb' : ∀ j, j < k → p j = true := fun j hj => List.all_eq_true.1 hb j (List.mem_range.2 hj)
      have hk : k = len := by omega
      subst hk
      cases n with
      | zero => omega
      | succ n => rw [loopN_succ, hfin s _ hi hb', hb]; rfl
    | succ m ih =>
      intro k s n hk hn hi hb
      have hb' : ∀ j, j < k → p j = true := fun j hj => List.all_eq_true.1 hb j (List.mem_range.2 hj)
      cases n with
      | zero => omega
      | succ n =>
        rw [loopN_succ]
        obtain ⟨s', h1, h2⟩ := hstep k s (loopN b n) (by omega) hi hb'
        rw [h2]
        cases hp : p k with
        | true => exact ih (k + 1) s' n (by omega) (by omega) (h1 hp) (by rw [all_range_succ, hb, hp]; rfl)
        | false => rw [all_range_not (by omega : k < len) hp]; rfl
  exact key len 0 s0 n (by omega) hn h0 rfl
/-- A loop over 0 .. len that never leaves early; its state: I. -/
theorem loop_runS {S R : Type} {X : Type} {enc : Int → S → X} {b : X → (X → Option R) → Option R} {len : Nat} {I : Nat → S → Prop} {Q : Option R → Prop}
    (hstep : ∀ (k : Nat) (s : S) (J : X → Option R), k < len → I k s → ∃ s', I (k + 1) s' ∧ b (enc (k : Int) s) J = J (enc ((k + 1 : Nat) : Int) s')) (hfin : ∀ s J, I len s → Q (b (enc (len : Int) s) J)) {n : Nat} (hn : len < n) {s0 : S} (h0 : I 0 s0) :
    Q (loopN b n (enc (0 : Int) s0)) := by
  have key : ∀ m (k : Nat) (s : S) n, k + m = len → m < n → I k s → Q (loopN b n (enc (k : Int) s)) := by
    intro m
    induction m with
    | zero =>
      intro k s n hk hn hi
      have hk : k = len := by omega
      subst hk
      cases n with
      | zero => omega
      | succ n => rw [loopN_succ]; exact hfin s _ hi
    | succ m ih =>
      intro k s n hk hn hi
      cases n with
      | zero => omega
      | succ n =>
        rw [loopN_succ]
        obtain ⟨s', h1, h2⟩ := hstep k s (loopN b n) (by omega) hi
        rw [h2]
        exact ih (k + 1) s' n (by omega) (by omega) h1
  exact key len 0 s0 n (by omega) hn h0
/-! ### Sums over lists -/
def sumOf {α : Type} (f : α → Nat) : List α → Nat
  | [] => 0
  | a :: l => f a + sumOf f l
theorem sumOf_append {α : Type} (f : α → Nat) : ∀ a b : List α, sumOf f (a ++ b) = sumOf f a + sumOf f b
  | [], b => by simp [sumOf]
  | x :: a, b => by simp only [List.cons_append, sumOf, sumOf_append f a b]; omega
theorem sumOf_take_succ {α : Type} {f : α → Nat} {l : List α} {k : Nat} {d : α} (h : k < l.length) : sumOf f (l.take (k + 1)) = sumOf f (l.take k) + f (l.getD k d) := by
  rw [take_succ_getD (d := d) h, sumOf_append]
  simp [sumOf]
theorem sumOf_take_le {α : Type} (f : α → Nat) (l : List α) (k : Nat) : sumOf f (l.take k) ≤ sumOf f l := by
  have := sumOf_append f (l.take k) (l.drop k)
  rw [List.take_append_drop] at this
  omega
theorem sumOf_mem {α : Type} {f : α → Nat} {l : List α} {k : Nat} {d : α} (h : k < l.length) : f (l.getD k d) ≤ sumOf f l := by
  have h1 := sumOf_take_succ (f := f) (d := d) h
  have h2 := sumOf_take_le f l (k + 1)
  omega
theorem sumOf_lin {α : Type} {f g : α → Nat} {c s : Nat} (h : ∀ y, f y ≤ c * g y + s) : ∀ l : List α, sumOf f l ≤ c * sumOf g l + s * l.length
  | [] => by simp [sumOf]
  | a :: l => by
    have h1 := h a
    have h2 := sumOf_lin h l
    simp only [sumOf, List.length_cons, Nat.mul_add, Nat.mul_succ]
    omega
theorem sumOf_const {α : Type} (c : Nat) : ∀ l : List α, sumOf (fun _ => c) l = c * l.length
  | [] => by simp [sumOf]
  | a :: l => by simp only [sumOf, sumOf_const c l, List.length_cons, Nat.mul_succ]; omega
theorem getD_set {α : Type} {l : List α} {k : Nat} {x d : α} (h : k < l.length) : (l.set k x).getD k d = x := by simp [List.getD, h]
theorem getD_set_ne {α : Type} {l : List α} {k j : Nat} {x d : α} (h : j ≠ k) : (l.set k x).getD j d = l.getD j d := by simp [List.getD, List.getElem?_set, Ne.symm h]
theorem getD_mem {α : Type} {l : List α} {k : Nat} {d : α} (h : k < l.length) : l.getD k d ∈ l := by rw [getD_eq h]; exact List.getElem_mem h
theorem take_drop_set {α : Type} {a : List α} {d : α} {m k : Nat} {x : α} (h : k < a.length) (hm : m = a.length) (hx : x = a.getD k d) : (a.take k ++ (List.replicate m d).drop k).set k x = a.take (k + 1) ++ (List.replicate m d).drop (k + 1) := by
  subst hx
  exact set_take h hm
/-! ### The first that is so -/
def idxOf (p : Nat → Bool) (m : Nat) : Int := match (List.range m).find? p with
  | some k => (k : Int)
  | none => -1
theorem find_range_none {p : Nat → Bool} {m : Nat} (h : ∀ j, j < m → p j = false) : (List.range m).find? p = none := by
  rw [List.find?_eq_none]
  intro x hx
  rw [h x (List.mem_range.1 hx)]
  simp
theorem find_range_some {p : Nat → Bool} {m k : Nat} (hk : k < m) (hp : p k = true) (h : ∀ j, j < k → p j = false) : (List.range m).find? p = some k := by
  have e : m = k + (m - k) := by omega
  rw [e, List.range_add, List.find?_append, find_range_none h, Option.none_or]
  obtain ⟨r, hr⟩ : ∃ r, m - k = r + 1 := ⟨m - k - 1, by omega⟩
  rw [hr, List.range_succ_eq_map]
  simp [hp]
theorem idxOf_ge (p : Nat → Bool) (m : Nat) : decide (idxOf p m ≥ 0) = (List.range m).any p := by
  unfold idxOf
  cases h : (List.range m).find? p with
  | none =>
    rw [List.find?_eq_none] at h
    rw [show (List.range m).any p = false from by rw [List.any_eq_false]; exact h]
    rfl
  | some k =>
    have h1 := List.find?_some h
    rw [show (List.range m).any p = true from List.any_eq_true.2 ⟨k, List.mem_of_find?_eq_some h, h1⟩]
    exact decide_eq_true (by show (0 : Int) ≤ (k : Int); omega)
theorem idxOf_lt (p : Nat → Bool) (m : Nat) : decide (idxOf p m < 0) = !(List.range m).any p := by
  rw [← idxOf_ge]
  by_cases h : idxOf p m < 0
  · rw [decide_eq_true h, decide_eq_false (by omega)]; rfl
  · rw [decide_eq_false h, decide_eq_true (by omega)]; rfl
theorem find_range (p : Nat → Bool) : ∀ m, ((List.range m).find? p = none ∧ ∀ j, j < m → p j = false) ∨ ∃ k, (List.range m).find? p = some k ∧ k < m ∧ p k = true ∧ ∀ j, j < k → p j = false
  | 0 => .inl ⟨rfl, fun j hj => absurd hj (Nat.not_lt_zero _)⟩
  | m + 1 => by
    rcases find_range p m with ⟨h1, h2⟩ | ⟨k, h1, h2, h3, h4⟩
    · cases hp : p m with
      | true => exact .inr ⟨m, find_range_some (by omega) hp h2, by omega, hp, h2⟩
      | false =>
        have : ∀ j, j < m + 1 → p j = false := fun j hj => by
          by_cases e : j = m
          · rw [e]; exact hp
          · exact h2 j (by omega)
        exact .inl ⟨find_range_none this, this⟩
    · exact .inr ⟨k, find_range_some (by omega) h3 h4, by omega, h3, h4⟩
theorem idxOf_spec (p : Nat → Bool) (m : Nat) : (idxOf p m = -1 ∧ ∀ j, j < m → p j = false) ∨ ∃ k : Nat, idxOf p m = (k : Int) ∧ k < m ∧ p k = true ∧ ∀ j, j < k → p j = false := by
  unfold idxOf
  rcases find_range p m with ⟨h1, h2⟩ | ⟨k, h1, h2, h3, h4⟩
  · rw [h1]; exact .inl ⟨rfl, h2⟩
  · rw [h1]; exact .inr ⟨k, rfl, h2, h3, h4⟩
/-- A loop that looks at k = 0, 1, .. and leaves at the first that is so. -/
theorem loop_find {R : Type} {b : Int → (Int → Option R) → Option R} {len : Nat} {p : Nat → Bool} {yes : Nat → Option R} {no : Option R} (hlen : len ≤ 9223372036854775807)
    (hstep : ∀ (k : Nat) (J : Int → Option R), k < len → (∀ j, j < k → p j = false) → b (k : Int) J = bif p k then yes k else J ((k + 1 : Nat) : Int)) (hfin : ∀ J, (∀ j, j < len → p j = false) → b (len : Int) J = no) {n : Nat} (hn : len < n) :
    loopN b n (0 : Int) = match (List.range len).find? p with | some k => yes k | none => no := by
  refine loopN_ind (fun x => len - x.toNat) (fun x => ∃ k : Nat, k ≤ len ∧ x = (k : Int) ∧ ∀ j, j < k → p j = false) (fun x r => r = match (List.range len).find? p with | some k => yes k | none => no) ?_ n _ ⟨0, by omega, rfl, fun j hj => absurd hj (Nat.not_lt_zero _)⟩ (by simp; omega)
  rintro _ J ⟨k, hk, rfl, hb⟩ ih
  by_cases h : k < len
  · rw [hstep k J h hb]
    cases hp : p k with
    | false => exact ih _ ⟨k + 1, h, rfl, fun j hj => by
        by_cases e : j = k
        · rw [e]; exact hp
        · exact hb j (by omega)⟩ (by simp; omega)
    | true => rw [find_range_some h hp hb]; rfl
  · have : k = len := by omega
    subst this
    rw [hfin _ hb, find_range_none hb]
theorem loop_idx {b : Int → (Int → Option Int) → Option Int} {len : Nat} {p : Nat → Bool} (hlen : len ≤ 9223372036854775807)
    (hstep : ∀ (k : Nat) (J : Int → Option Int), k < len → (∀ j, j < k → p j = false) → b (k : Int) J = bif p k then some (k : Int) else J ((k + 1 : Nat) : Int)) (hfin : ∀ J, (∀ j, j < len → p j = false) → b (len : Int) J = some (-1)) {n : Nat} (hn : len < n) :
    loopN b n (0 : Int) = some (idxOf p len) := by
  rw [loop_find (yes := fun k => some (k : Int)) (no := some (-1)) hlen hstep hfin hn]
  unfold idxOf
  cases (List.range len).find? p <;> rfl
theorem byteAt_rng (s : ByteArray) (k : Nat) : 0 ≤ byteAt s k ∧ byteAt s k ≤ 255 := by
  unfold byteAt
  have := (s.data.getD k 0).toNat_lt
  omega
theorem range_any {α : Type} {l : List α} {d : α} {f : α → Bool} : (List.range l.length).any (fun k => f (l.getD k d)) = l.any f := by
  induction l with
  | nil => rfl
  | cons a l ih =>
    rw [List.length_cons, List.range_succ_eq_map, List.any_cons, List.any_map, List.any_cons, ← ih]
    rfl
theorem range_all {α : Type} {l : List α} {d : α} {f : α → Bool} : (List.range l.length).all (fun k => f (l.getD k d)) = l.all f := by
  induction l with
  | nil => rfl
  | cons a l ih =>
    rw [List.length_cons, List.range_succ_eq_map, List.all_cons, List.all_map, List.all_cons, ← ih]
    rfl
theorem all_congr_lt {p q : Nat → Bool} {m : Nat} (h : ∀ k, k < m → p k = q k) : (List.range m).all p = (List.range m).all q := by
  rw [Bool.eq_iff_iff, List.all_eq_true, List.all_eq_true]
  constructor
  · intro g x hx; rw [← h x (List.mem_range.1 hx)]; exact g x hx
  · intro g x hx; rw [h x (List.mem_range.1 hx)]; exact g x hx
theorem any_congr_lt {p q : Nat → Bool} {m : Nat} (h : ∀ k, k < m → p k = q k) : (List.range m).any p = (List.range m).any q := by
  rw [Bool.eq_iff_iff, List.any_eq_true, List.any_eq_true]
  constructor
  · rintro ⟨x, hx, g⟩; exact ⟨x, hx, by rw [← h x (List.mem_range.1 hx)]; exact g⟩
  · rintro ⟨x, hx, g⟩; exact ⟨x, hx, by rw [h x (List.mem_range.1 hx)]; exact g⟩
theorem guard_sz {w : Nat} {x : Option Bool} (h : w ≤ 1048576 → x = some true) : (bif decide ((if (w : Int) ≤ 1048576 then 1048576 - (w : Int) else -1) < 0) then some true else x) = some true := by
  by_cases c : (w : Int) ≤ 1048576
  · rw [if_pos c, decide_eq_false (by omega), cond_false]
    exact h (by omega)
  · rw [if_neg c]
    rfl
end Go.Sm
end

section
set_option linter.unusedSimpArgs false
set_option linter.deprecated false
set_option linter.unusedSectionVars false
set_option linter.unusedVariables false
set_option linter.unusedSimpArgs false
namespace Go.Sm
attribute [local irreducible] bd chk ix loopN
def w_LSCargoTank (a : List SCargoTank) : Nat := a.length
theorem laws_szCargoTankS_ok {n : Nat} (a : List SCargoTank) {left : Int} (h : (a.length ≤ 9223372036854775807 ∧ ∀ y ∈ a, wfSCargoTank y)) (h0 : 0 ≤ left) (h1 : left ≤ 1048576) (hn : 1000000000 < n) : laws_szCargoTankS n a left = some (if (w_LSCargoTank a : Int) ≤ left then left - (w_LSCargoTank a : Int) else -1) := by
  have hw : w_LSCargoTank a = a.length := rfl
  unfold laws_szCargoTankS
  rw [w64_id (by have := h.1; omega) (by omega), bd_eq, bif_dec]
  by_cases c : (a.length : Int) ≤ left
  · rw [if_neg (by omega), if_pos (by omega)]
    congr 1
  · rw [if_pos (by omega), if_neg (by omega)]
def w_LSCargoOp (a : List SCargoOp) : Nat := a.length
theorem laws_szCargoOpS_ok {n : Nat} (a : List SCargoOp) {left : Int} (h : (a.length ≤ 9223372036854775807 ∧ ∀ y ∈ a, wfSCargoOp y)) (h0 : 0 ≤ left) (h1 : left ≤ 1048576) (hn : 1000000000 < n) : laws_szCargoOpS n a left = some (if (w_LSCargoOp a : Int) ≤ left then left - (w_LSCargoOp a : Int) else -1) := by
  have hw : w_LSCargoOp a = a.length := rfl
  unfold laws_szCargoOpS
  rw [w64_id (by have := h.1; omega) (by omega), bd_eq, bif_dec]
  by_cases c : (a.length : Int) ≤ left
  · rw [if_neg (by omega), if_pos (by omega)]
    congr 1
  · rw [if_pos (by omega), if_neg (by omega)]
theorem laws_toCargoTank_ok (n : Nat) (a : SCargoTank) : laws_toCargoTank n a = some a := by simp [laws_toCargoTank]
theorem laws_toCargoTankS_ok {n : Nat} (a : List SCargoTank) (hb : w_LSCargoTank a ≤ 100000000) (hn : 1000000000 < n) : laws_toCargoTankS n a = some a := by
  have hw0 : a.length ≤ 100000000 := by have hw : w_LSCargoTank a = a.length := rfl; omega
  unfold laws_toCargoTankS
  rw [chk_dec (by omega), chk_dec (by omega), chk_dec (by omega)]
  refine loopN_ind (fun x => a.length - x.1.toNat) (fun x => ∃ k : Nat, k ≤ a.length ∧ x = ((k : Int), a.take k ++ (List.replicate a.length dSCargoTank).drop k)) (fun x r => r = some a) ?_ n _ ⟨0, by omega, by simp⟩ (by simp; omega)
  rintro _ J ⟨k, hk, rfl⟩ ih
  unfold laws_toCargoTankS_L3
  dsimp only
  have hl : (a.take k ++ (List.replicate a.length dSCargoTank).drop k).length = a.length := by simp; omega
  by_cases h : k < a.length
  · have g := ih (((k + 1 : Nat) : Int), a.take (k + 1) ++ (List.replicate a.length dSCargoTank).drop (k + 1)) ⟨k + 1, h, rfl⟩ (by simp; omega)
    have hk2 : k < (a.take k ++ (List.replicate a.length dSCargoTank).drop k).length := by omega
    simp only [Int.ofNat_lt, h, hk2, decide_true, cond_true, ix_nat h, ix_nat hk2, chk_of, bd_eq, Option.bind_some, Int.toNat_natCast, w64_succ (show k < 9223372036854775807 by omega), laws_toCargoTank_ok]
    rw [take_drop_set (d := dSCargoTank) h rfl rfl]
    exact g
  · have : k = a.length := by omega
    subst this
    simp
theorem laws_toCargoOp_ok (n : Nat) (a : SCargoOp) : laws_toCargoOp n a = some a := by simp [laws_toCargoOp]
theorem laws_toCargoOpS_ok {n : Nat} (a : List SCargoOp) (hb : w_LSCargoOp a ≤ 100000000) (hn : 1000000000 < n) : laws_toCargoOpS n a = some a := by
  have hw0 : a.length ≤ 100000000 := by have hw : w_LSCargoOp a = a.length := rfl; omega
  unfold laws_toCargoOpS
  rw [chk_dec (by omega), chk_dec (by omega), chk_dec (by omega)]
  refine loopN_ind (fun x => a.length - x.1.toNat) (fun x => ∃ k : Nat, k ≤ a.length ∧ x = ((k : Int), a.take k ++ (List.replicate a.length dSCargoOp).drop k)) (fun x r => r = some a) ?_ n _ ⟨0, by omega, by simp⟩ (by simp; omega)
  rintro _ J ⟨k, hk, rfl⟩ ih
  unfold laws_toCargoOpS_L3
  dsimp only
  have hl : (a.take k ++ (List.replicate a.length dSCargoOp).drop k).length = a.length := by simp; omega
  by_cases h : k < a.length
  · have g := ih (((k + 1 : Nat) : Int), a.take (k + 1) ++ (List.replicate a.length dSCargoOp).drop (k + 1)) ⟨k + 1, h, rfl⟩ (by simp; omega)
    have hk2 : k < (a.take k ++ (List.replicate a.length dSCargoOp).drop k).length := by omega
    simp only [Int.ofNat_lt, h, hk2, decide_true, cond_true, ix_nat h, ix_nat hk2, chk_of, bd_eq, Option.bind_some, Int.toNat_natCast, w64_succ (show k < 9223372036854775807 by omega), laws_toCargoOp_ok]
    rw [take_drop_set (d := dSCargoOp) h rfl rfl]
    exact g
  · have : k = a.length := by omega
    subst this
    simp
theorem laws_eqCargoTank_ok (n : Nat) (a : SCargoTank) : laws_eqCargoTank n a a = some true := by simp [laws_eqCargoTank]
theorem laws_eqCargoTankS_ok {n : Nat} (a : List SCargoTank) (hb : w_LSCargoTank a ≤ 100000000) (hn : 1000000000 < n) : laws_eqCargoTankS n a a = some true := by
  have hw0 : a.length ≤ 100000000 := by have hw : w_LSCargoTank a = a.length := rfl; omega
  unfold laws_eqCargoTankS
  simp only [decide_true, Bool.not_true, cond_false]
  refine loopN_ind (fun x => a.length - x.toNat) (fun x => ∃ k : Nat, k ≤ a.length ∧ x = (k : Int)) (fun x r => r = some true) ?_ n _ ⟨0, by omega, rfl⟩ (by simp; omega)
  rintro _ J ⟨k, hk, rfl⟩ ih
  unfold laws_eqCargoTankS_L4
  by_cases h : k < a.length
  · have g := ih ((k + 1 : Nat) : Int) ⟨k + 1, h, rfl⟩ (by simp; omega)
    simp only [Int.ofNat_lt, h, decide_true, cond_true, ix_nat h, Bool.not_true, cond_false, bd_eq, Option.bind_some, beq_self_eq_true, Int.toNat_natCast, w64_succ (show k < 9223372036854775807 by omega), laws_eqCargoTank_ok]
    exact g
  · simp [h]
def w_LInt (a : List Int) : Nat := a.length
theorem laws_eqIntS_ok {n : Nat} (a : List Int) (hb : w_LInt a ≤ 100000000) (hn : 1000000000 < n) : laws_eqIntS n a a = some true := by
  have hw0 : a.length ≤ 100000000 := by have hw : w_LInt a = a.length := rfl; omega
  unfold laws_eqIntS
  simp only [decide_true, Bool.not_true, cond_false]
  refine loopN_ind (fun x => a.length - x.toNat) (fun x => ∃ k : Nat, k ≤ a.length ∧ x = (k : Int)) (fun x r => r = some true) ?_ n _ ⟨0, by omega, rfl⟩ (by simp; omega)
  rintro _ J ⟨k, hk, rfl⟩ ih
  unfold laws_eqIntS_L4
  by_cases h : k < a.length
  · have g := ih ((k + 1 : Nat) : Int) ⟨k + 1, h, rfl⟩ (by simp; omega)
    simp only [Int.ofNat_lt, h, decide_true, cond_true, ix_nat h, Bool.not_true, cond_false, bd_eq, Option.bind_some, beq_self_eq_true, Int.toNat_natCast, w64_succ (show k < 9223372036854775807 by omega)]
    exact g
  · simp [h]
theorem laws_eqCargoOp_ok (n : Nat) (a : SCargoOp) : laws_eqCargoOp n a a = some true := by simp [laws_eqCargoOp]
theorem laws_eqCargoOpS_ok {n : Nat} (a : List SCargoOp) (hb : w_LSCargoOp a ≤ 100000000) (hn : 1000000000 < n) : laws_eqCargoOpS n a a = some true := by
  have hw0 : a.length ≤ 100000000 := by have hw : w_LSCargoOp a = a.length := rfl; omega
  unfold laws_eqCargoOpS
  simp only [decide_true, Bool.not_true, cond_false]
  refine loopN_ind (fun x => a.length - x.toNat) (fun x => ∃ k : Nat, k ≤ a.length ∧ x = (k : Int)) (fun x r => r = some true) ?_ n _ ⟨0, by omega, rfl⟩ (by simp; omega)
  rintro _ J ⟨k, hk, rfl⟩ ih
  unfold laws_eqCargoOpS_L4
  by_cases h : k < a.length
  · have g := ih ((k + 1 : Nat) : Int) ⟨k + 1, h, rfl⟩ (by simp; omega)
    simp only [Int.ofNat_lt, h, decide_true, cond_true, ix_nat h, Bool.not_true, cond_false, bd_eq, Option.bind_some, beq_self_eq_true, Int.toNat_natCast, w64_succ (show k < 9223372036854775807 by omega), laws_eqCargoOp_ok]
    exact g
  · simp [h]
def Mk_LSCargoTank (n : Nat) (k : Int) (a x : SCargoTank) : Prop := x.Has = k ∧ x.Most = k + 1 ∧ x.Side = k + 2 ∧ x.Gas = k + 3 ∧ x.Air = k + 4
def n_LSCargoTank (a : List SCargoTank) : Nat := sumOf (fun y => 5) a
theorem n_LSCargoTank_eq (a : List SCargoTank) : n_LSCargoTank a = 5 * a.length := sumOf_const 5 a
theorem n_LSCargoTank_le (a : List SCargoTank) : n_LSCargoTank a ≤ 5 * w_LSCargoTank a := by
  have h := n_LSCargoTank_eq a
  have h2 : w_LSCargoTank a = a.length := rfl
  omega
theorem laws_markCargoTankS_i {n : Nat} (a : List SCargoTank) (k0 : Int) (hk0 : 0 ≤ k0) (hb : k0 + ((n_LSCargoTank a : Nat) : Int) ≤ 900000000) (hw : w_LSCargoTank a ≤ 100000000) (hn : 1000000000 < n) :
    ∃ p : List SCargoTank, laws_markCargoTankS n a k0 = some (k0 + ((n_LSCargoTank a : Nat) : Int), p) ∧ p.length = a.length ∧ ∀ i, i < a.length → Mk_LSCargoTank n (k0 + ((sumOf (fun y => 5) (a.take i) : Nat) : Int)) (a.getD i dSCargoTank) (p.getD i dSCargoTank) := by
  have hw0 : a.length ≤ 100000000 := by have hw : w_LSCargoTank a = a.length := rfl; omega
  have hnA : n_LSCargoTank a = sumOf (fun y => 5) a := rfl
  unfold laws_markCargoTankS
  refine loopN_ind (fun x => a.length - x.2.1.toNat) (fun x => ∃ (k : Nat) (p : List SCargoTank), k ≤ a.length ∧ x = (k0 + ((sumOf (fun y => 5) (a.take k) : Nat) : Int), (k : Int), p) ∧ p.length = a.length ∧
      (∀ i, i < k → Mk_LSCargoTank n (k0 + ((sumOf (fun y => 5) (a.take i) : Nat) : Int)) (a.getD i dSCargoTank) (p.getD i dSCargoTank)) ∧ ∀ i, k ≤ i → p.getD i dSCargoTank = a.getD i dSCargoTank)
    (fun x r => ∃ p : List SCargoTank, r = some (k0 + ((n_LSCargoTank a : Nat) : Int), p) ∧ p.length = a.length ∧ ∀ i, i < a.length → Mk_LSCargoTank n (k0 + ((sumOf (fun y => 5) (a.take i) : Nat) : Int)) (a.getD i dSCargoTank) (p.getD i dSCargoTank)) ?_ n _ ⟨0, a, by omega, by simp [sumOf], rfl, by omega, fun _ _ => rfl⟩ (by simp; omega)
  rintro _ J ⟨k, p, hk, rfl, hp, hm, hrest⟩ ih
  by_cases h : k < a.length
  · have h' : k < p.length := by omega
    have s1 := sumOf_take_succ (f := fun y => 5) (d := dSCargoTank) h
    have s2 := sumOf_take_le (fun y => 5) a (k + 1)
    try simp only at s1
    obtain ⟨kk, hkk⟩ : ∃ kk : Int, kk = k0 + ((sumOf (fun y => 5) (a.take k) : Nat) : Int) := ⟨_, rfl⟩
    have hpk := hrest k (Nat.le_refl _)
    have step : ∀ (K : Int → List SCargoTank → Option (Int × List SCargoTank)) (J : Int → Int → List SCargoTank → Option (Int × List SCargoTank)), laws_markCargoTankS_L2 n K J kk (k : Int) p = J (kk + 5) ((k : Int) + 1) (p.set k (⟨(kk), (kk + 1), (kk + 2), (kk + 3), (kk + 4)⟩ : SCargoTank)) := fun K J => by
      unfold laws_markCargoTankS_L2
      simp (disch := omega) only [laws_markCargoTankS_k0, Int.ofNat_lt, h', decide_true, cond_true, ix_nat h', List.length_set, chk_of, chk_true, bd_eq, getD_set h', List.set_set, hpk, Int.toNat_natCast, w64_id, Int.add_assoc, Int.reduceAdd, Option.bind_some]
    dsimp only
    rw [← hkk]
    refine (congrArg (fun z => ∃ q : List SCargoTank, z = some (k0 + ((n_LSCargoTank a : Nat) : Int), q) ∧ q.length = a.length ∧ ∀ i, i < a.length → Mk_LSCargoTank n (k0 + ((sumOf (fun y => 5) (a.take i) : Nat) : Int)) (a.getD i dSCargoTank) (q.getD i dSCargoTank)) (step _ _)).mpr ?_
    refine ih _ ⟨k + 1, _, h, Prod.ext (by dsimp only; omega) (Prod.ext (by dsimp only; omega) rfl), by simpa using hp, fun i hi => ?_, fun i hi => ?_⟩ (by dsimp only; omega)
    · by_cases e : i = k
      · subst e
        rw [getD_set h', ← hkk]
        unfold Mk_LSCargoTank
        exact ⟨rfl, rfl, rfl, rfl, rfl⟩
      · rw [getD_set_ne e]
        exact hm i (by omega)
    · rw [getD_set_ne (by omega)]
      exact hrest i (by omega)
  · have : k = a.length := by omega
    subst this
    unfold laws_markCargoTankS_L2
    simp only [hp, Int.lt_irrefl, decide_false, cond_false]
    rw [List.take_length]
    exact ⟨p, rfl, hp, hm⟩
theorem laws_heldCargoTankS_i {n : Nat} (a p : List SCargoTank) (hp : p.length = a.length) (k0 : Int) (hk0 : 0 ≤ k0) (hb : k0 + ((n_LSCargoTank a : Nat) : Int) ≤ 900000000) (hw : w_LSCargoTank a ≤ 100000000) (hn : 1000000000 < n)
    (hm : ∀ i, i < a.length → Mk_LSCargoTank n (k0 + ((sumOf (fun y => 5) (a.take i) : Nat) : Int)) (a.getD i dSCargoTank) (p.getD i dSCargoTank)) : laws_heldCargoTankS n p k0 = some (k0 + ((n_LSCargoTank a : Nat) : Int)) := by
  have hw0 : a.length ≤ 100000000 := by have hw : w_LSCargoTank a = a.length := rfl; omega
  have hnA : n_LSCargoTank a = sumOf (fun y => 5) a := rfl
  unfold laws_heldCargoTankS
  refine loopN_ind (fun x => a.length - x.2.toNat) (fun x => ∃ (k : Nat), k ≤ a.length ∧ x = (k0 + ((sumOf (fun y => 5) (a.take k) : Nat) : Int), (k : Int)))
    (fun x r => r = some (k0 + ((n_LSCargoTank a : Nat) : Int))) ?_ n _ ⟨0, by omega, by simp [sumOf]⟩ (by simp; omega)
  rintro _ J ⟨k, hk, rfl⟩ ih
  by_cases h : k < a.length
  · have h' : k < p.length := by omega
    have s1 := sumOf_take_succ (f := fun y => 5) (d := dSCargoTank) h
    have s2 := sumOf_take_le (fun y => 5) a (k + 1)
    try simp only at s1
    have hmk := hm k h
    unfold Mk_LSCargoTank at hmk
    obtain ⟨kk, hkk⟩ : ∃ kk : Int, kk = k0 + ((sumOf (fun y => 5) (a.take k) : Nat) : Int) := ⟨_, rfl⟩
    rw [← hkk] at hmk
    try simp (disch := omega) only [Int.add_assoc, Int.reduceAdd] at hmk
    obtain ⟨e0, e1, e2, e3, e4⟩ := hmk
    have step : ∀ (K K2 : Int → Option Int) (J : Int → Int → Option Int), laws_heldCargoTankS_L2 n K K2 J p kk (k : Int) = J (kk + 5) ((k : Int) + 1) := fun K K2 J => by
      unfold laws_heldCargoTankS_L2
      simp (disch := omega) only [laws_heldCargoTankS_k1, laws_heldCargoTankS_k0, Int.ofNat_lt, h', decide_true, cond_true, ix_nat h', bd_eq, Int.toNat_natCast, w64_id, Int.add_assoc, Int.reduceAdd, Option.bind_some, Bool.not_true, cond_false, beq_self_eq_true, decide_eq_false_iff_not, Int.not_lt, bif_dec, if_neg, e0, e1, e2, e3, e4]
    dsimp only
    rw [← hkk]
    refine (step _ _ _).trans ?_
    exact ih (_, _) ⟨k + 1, h, Prod.ext (by dsimp only; omega) (by dsimp only; omega)⟩ (by dsimp only; omega)
  · have : k = a.length := by omega
    subst this
    unfold laws_heldCargoTankS_L2
    simp only [hp, Int.lt_irrefl, decide_false, cond_false]
    rw [List.take_length]
    rfl
theorem laws_markCargoTankS_ok {n : Nat} (a : List SCargoTank) (k0 : Int) (hk0 : 0 ≤ k0) (hb : k0 + ((n_LSCargoTank a : Nat) : Int) ≤ 900000000) (hw : w_LSCargoTank a ≤ 100000000) (hn : 1000000000 < n) : ∃ p : List SCargoTank, laws_markCargoTankS n a k0 = some (k0 + ((n_LSCargoTank a : Nat) : Int), p) ∧ laws_heldCargoTankS n p k0 = some (k0 + ((n_LSCargoTank a : Nat) : Int)) := by
  obtain ⟨p, h1, h2, h3⟩ := laws_markCargoTankS_i (n := n) a k0 hk0 hb hw hn
  exact ⟨p, h1, laws_heldCargoTankS_i a p h2 k0 hk0 hb hw hn h3⟩
def Mk_LSCargoOp (n : Nat) (k : Int) (a x : SCargoOp) : Prop := x.Kind = k ∧ x.A = k + 1 ∧ x.B = k + 2 ∧ x.Many = k + 3
def n_LSCargoOp (a : List SCargoOp) : Nat := sumOf (fun y => 4) a
theorem n_LSCargoOp_eq (a : List SCargoOp) : n_LSCargoOp a = 4 * a.length := sumOf_const 4 a
theorem n_LSCargoOp_le (a : List SCargoOp) : n_LSCargoOp a ≤ 4 * w_LSCargoOp a := by
  have h := n_LSCargoOp_eq a
  have h2 : w_LSCargoOp a = a.length := rfl
  omega
theorem laws_markCargoOpS_i {n : Nat} (a : List SCargoOp) (k0 : Int) (hk0 : 0 ≤ k0) (hb : k0 + ((n_LSCargoOp a : Nat) : Int) ≤ 900000000) (hw : w_LSCargoOp a ≤ 100000000) (hn : 1000000000 < n) :
    ∃ p : List SCargoOp, laws_markCargoOpS n a k0 = some (k0 + ((n_LSCargoOp a : Nat) : Int), p) ∧ p.length = a.length ∧ ∀ i, i < a.length → Mk_LSCargoOp n (k0 + ((sumOf (fun y => 4) (a.take i) : Nat) : Int)) (a.getD i dSCargoOp) (p.getD i dSCargoOp) := by
  have hw0 : a.length ≤ 100000000 := by have hw : w_LSCargoOp a = a.length := rfl; omega
  have hnA : n_LSCargoOp a = sumOf (fun y => 4) a := rfl
  unfold laws_markCargoOpS
  refine loopN_ind (fun x => a.length - x.2.1.toNat) (fun x => ∃ (k : Nat) (p : List SCargoOp), k ≤ a.length ∧ x = (k0 + ((sumOf (fun y => 4) (a.take k) : Nat) : Int), (k : Int), p) ∧ p.length = a.length ∧
      (∀ i, i < k → Mk_LSCargoOp n (k0 + ((sumOf (fun y => 4) (a.take i) : Nat) : Int)) (a.getD i dSCargoOp) (p.getD i dSCargoOp)) ∧ ∀ i, k ≤ i → p.getD i dSCargoOp = a.getD i dSCargoOp)
    (fun x r => ∃ p : List SCargoOp, r = some (k0 + ((n_LSCargoOp a : Nat) : Int), p) ∧ p.length = a.length ∧ ∀ i, i < a.length → Mk_LSCargoOp n (k0 + ((sumOf (fun y => 4) (a.take i) : Nat) : Int)) (a.getD i dSCargoOp) (p.getD i dSCargoOp)) ?_ n _ ⟨0, a, by omega, by simp [sumOf], rfl, by omega, fun _ _ => rfl⟩ (by simp; omega)
  rintro _ J ⟨k, p, hk, rfl, hp, hm, hrest⟩ ih
  by_cases h : k < a.length
  · have h' : k < p.length := by omega
    have s1 := sumOf_take_succ (f := fun y => 4) (d := dSCargoOp) h
    have s2 := sumOf_take_le (fun y => 4) a (k + 1)
    try simp only at s1
    obtain ⟨kk, hkk⟩ : ∃ kk : Int, kk = k0 + ((sumOf (fun y => 4) (a.take k) : Nat) : Int) := ⟨_, rfl⟩
    have hpk := hrest k (Nat.le_refl _)
    have step : ∀ (K : Int → List SCargoOp → Option (Int × List SCargoOp)) (J : Int → Int → List SCargoOp → Option (Int × List SCargoOp)), laws_markCargoOpS_L2 n K J kk (k : Int) p = J (kk + 4) ((k : Int) + 1) (p.set k (⟨(kk), (kk + 1), (kk + 2), (kk + 3)⟩ : SCargoOp)) := fun K J => by
      unfold laws_markCargoOpS_L2
      simp (disch := omega) only [laws_markCargoOpS_k0, Int.ofNat_lt, h', decide_true, cond_true, ix_nat h', List.length_set, chk_of, chk_true, bd_eq, getD_set h', List.set_set, hpk, Int.toNat_natCast, w64_id, Int.add_assoc, Int.reduceAdd, Option.bind_some]
    dsimp only
    rw [← hkk]
    refine (congrArg (fun z => ∃ q : List SCargoOp, z = some (k0 + ((n_LSCargoOp a : Nat) : Int), q) ∧ q.length = a.length ∧ ∀ i, i < a.length → Mk_LSCargoOp n (k0 + ((sumOf (fun y => 4) (a.take i) : Nat) : Int)) (a.getD i dSCargoOp) (q.getD i dSCargoOp)) (step _ _)).mpr ?_
    refine ih _ ⟨k + 1, _, h, Prod.ext (by dsimp only; omega) (Prod.ext (by dsimp only; omega) rfl), by simpa using hp, fun i hi => ?_, fun i hi => ?_⟩ (by dsimp only; omega)
    · by_cases e : i = k
      · subst e
        rw [getD_set h', ← hkk]
        unfold Mk_LSCargoOp
        exact ⟨rfl, rfl, rfl, rfl⟩
      · rw [getD_set_ne e]
        exact hm i (by omega)
    · rw [getD_set_ne (by omega)]
      exact hrest i (by omega)
  · have : k = a.length := by omega
    subst this
    unfold laws_markCargoOpS_L2
    simp only [hp, Int.lt_irrefl, decide_false, cond_false]
    rw [List.take_length]
    exact ⟨p, rfl, hp, hm⟩
theorem laws_markCargoOpS_ok {n : Nat} (a : List SCargoOp) (k0 : Int) (hk0 : 0 ≤ k0) (hb : k0 + ((n_LSCargoOp a : Nat) : Int) ≤ 900000000) (hw : w_LSCargoOp a ≤ 100000000) (hn : 1000000000 < n) : ∃ p : List SCargoOp, laws_markCargoOpS n a k0 = some (k0 + ((n_LSCargoOp a : Nat) : Int), p) := by
  obtain ⟨p, h1, h2, h3⟩ := laws_markCargoOpS_i (n := n) a k0 hk0 hb hw hn
  exact ⟨p, h1⟩
def Mk_LInt (n : Nat) (k : Int) (a x : Int) : Prop := x = k
def n_LInt (a : List Int) : Nat := sumOf (fun y => 1) a
theorem n_LInt_eq (a : List Int) : n_LInt a = 1 * a.length := sumOf_const 1 a
theorem n_LInt_le (a : List Int) : n_LInt a ≤ 1 * w_LInt a := by
  have h := n_LInt_eq a
  have h2 : w_LInt a = a.length := rfl
  omega
theorem laws_markIntS_i {n : Nat} (a : List Int) (k0 : Int) (hk0 : 0 ≤ k0) (hb : k0 + ((n_LInt a : Nat) : Int) ≤ 900000000) (hw : w_LInt a ≤ 100000000) (hn : 1000000000 < n) :
    ∃ p : List Int, laws_markIntS n a k0 = some (k0 + ((n_LInt a : Nat) : Int), p) ∧ p.length = a.length ∧ ∀ i, i < a.length → Mk_LInt n (k0 + ((sumOf (fun y => 1) (a.take i) : Nat) : Int)) (a.getD i (0 : Int)) (p.getD i (0 : Int)) := by
  have hw0 : a.length ≤ 100000000 := by have hw : w_LInt a = a.length := rfl; omega
  have hnA : n_LInt a = sumOf (fun y => 1) a := rfl
  unfold laws_markIntS
  refine loopN_ind (fun x => a.length - x.2.1.toNat) (fun x => ∃ (k : Nat) (p : List Int), k ≤ a.length ∧ x = (k0 + ((sumOf (fun y => 1) (a.take k) : Nat) : Int), (k : Int), p) ∧ p.length = a.length ∧
      (∀ i, i < k → Mk_LInt n (k0 + ((sumOf (fun y => 1) (a.take i) : Nat) : Int)) (a.getD i (0 : Int)) (p.getD i (0 : Int))) ∧ ∀ i, k ≤ i → p.getD i (0 : Int) = a.getD i (0 : Int))
    (fun x r => ∃ p : List Int, r = some (k0 + ((n_LInt a : Nat) : Int), p) ∧ p.length = a.length ∧ ∀ i, i < a.length → Mk_LInt n (k0 + ((sumOf (fun y => 1) (a.take i) : Nat) : Int)) (a.getD i (0 : Int)) (p.getD i (0 : Int))) ?_ n _ ⟨0, a, by omega, by simp [sumOf], rfl, by omega, fun _ _ => rfl⟩ (by simp; omega)
  rintro _ J ⟨k, p, hk, rfl, hp, hm, hrest⟩ ih
  by_cases h : k < a.length
  · have h' : k < p.length := by omega
    have s1 := sumOf_take_succ (f := fun y => 1) (d := (0 : Int)) h
    have s2 := sumOf_take_le (fun y => 1) a (k + 1)
    try simp only at s1
    obtain ⟨kk, hkk⟩ : ∃ kk : Int, kk = k0 + ((sumOf (fun y => 1) (a.take k) : Nat) : Int) := ⟨_, rfl⟩
    have hpk := hrest k (Nat.le_refl _)
    have step : ∀ (K : Int → List Int → Option (Int × List Int)) (J : Int → Int → List Int → Option (Int × List Int)), laws_markIntS_L2 n K J kk (k : Int) p = J (kk + 1) ((k : Int) + 1) (p.set k (kk)) := fun K J => by
      unfold laws_markIntS_L2
      simp (disch := omega) only [Int.ofNat_lt, h', decide_true, cond_true, ix_nat h', List.length_set, chk_of, chk_true, bd_eq, getD_set h', List.set_set, hpk, Int.toNat_natCast, w64_id, Int.add_assoc, Int.reduceAdd, Option.bind_some]
    dsimp only
    rw [← hkk]
    refine (congrArg (fun z => ∃ q : List Int, z = some (k0 + ((n_LInt a : Nat) : Int), q) ∧ q.length = a.length ∧ ∀ i, i < a.length → Mk_LInt n (k0 + ((sumOf (fun y => 1) (a.take i) : Nat) : Int)) (a.getD i (0 : Int)) (q.getD i (0 : Int))) (step _ _)).mpr ?_
    refine ih _ ⟨k + 1, _, h, Prod.ext (by dsimp only; omega) (Prod.ext (by dsimp only; omega) rfl), by simpa using hp, fun i hi => ?_, fun i hi => ?_⟩ (by dsimp only; omega)
    · by_cases e : i = k
      · subst e
        rw [getD_set h', ← hkk]
        unfold Mk_LInt
        exact rfl
      · rw [getD_set_ne e]
        exact hm i (by omega)
    · rw [getD_set_ne (by omega)]
      exact hrest i (by omega)
  · have : k = a.length := by omega
    subst this
    unfold laws_markIntS_L2
    simp only [hp, Int.lt_irrefl, decide_false, cond_false]
    rw [List.take_length]
    exact ⟨p, rfl, hp, hm⟩
theorem laws_heldIntS_i {n : Nat} (a p : List Int) (hp : p.length = a.length) (k0 : Int) (hk0 : 0 ≤ k0) (hb : k0 + ((n_LInt a : Nat) : Int) ≤ 900000000) (hw : w_LInt a ≤ 100000000) (hn : 1000000000 < n)
    (hm : ∀ i, i < a.length → Mk_LInt n (k0 + ((sumOf (fun y => 1) (a.take i) : Nat) : Int)) (a.getD i (0 : Int)) (p.getD i (0 : Int))) : laws_heldIntS n p k0 = some (k0 + ((n_LInt a : Nat) : Int)) := by
  have hw0 : a.length ≤ 100000000 := by have hw : w_LInt a = a.length := rfl; omega
  have hnA : n_LInt a = sumOf (fun y => 1) a := rfl
  unfold laws_heldIntS
  refine loopN_ind (fun x => a.length - x.2.toNat) (fun x => ∃ (k : Nat), k ≤ a.length ∧ x = (k0 + ((sumOf (fun y => 1) (a.take k) : Nat) : Int), (k : Int)))
    (fun x r => r = some (k0 + ((n_LInt a : Nat) : Int))) ?_ n _ ⟨0, by omega, by simp [sumOf]⟩ (by simp; omega)
  rintro _ J ⟨k, hk, rfl⟩ ih
  by_cases h : k < a.length
  · have h' : k < p.length := by omega
    have s1 := sumOf_take_succ (f := fun y => 1) (d := (0 : Int)) h
    have s2 := sumOf_take_le (fun y => 1) a (k + 1)
    try simp only at s1
    have hmk := hm k h
    unfold Mk_LInt at hmk
    obtain ⟨kk, hkk⟩ : ∃ kk : Int, kk = k0 + ((sumOf (fun y => 1) (a.take k) : Nat) : Int) := ⟨_, rfl⟩
    rw [← hkk] at hmk
    try simp (disch := omega) only [Int.add_assoc, Int.reduceAdd] at hmk
    have e0 := hmk
    have step : ∀ (K K2 : Int → Option Int) (J : Int → Int → Option Int), laws_heldIntS_L2 n K K2 J p kk (k : Int) = J (kk + 1) ((k : Int) + 1) := fun K K2 J => by
      unfold laws_heldIntS_L2
      simp (disch := omega) only [Int.ofNat_lt, h', decide_true, cond_true, ix_nat h', bd_eq, Int.toNat_natCast, w64_id, Int.add_assoc, Int.reduceAdd, Option.bind_some, Bool.not_true, cond_false, beq_self_eq_true, decide_eq_false_iff_not, Int.not_lt, bif_dec, if_neg, e0]
    dsimp only
    rw [← hkk]
    refine (step _ _ _).trans ?_
    exact ih (_, _) ⟨k + 1, h, Prod.ext (by dsimp only; omega) (by dsimp only; omega)⟩ (by dsimp only; omega)
  · have : k = a.length := by omega
    subst this
    unfold laws_heldIntS_L2
    simp only [hp, Int.lt_irrefl, decide_false, cond_false]
    rw [List.take_length]
    rfl
theorem laws_markIntS_ok {n : Nat} (a : List Int) (k0 : Int) (hk0 : 0 ≤ k0) (hb : k0 + ((n_LInt a : Nat) : Int) ≤ 900000000) (hw : w_LInt a ≤ 100000000) (hn : 1000000000 < n) : ∃ p : List Int, laws_markIntS n a k0 = some (k0 + ((n_LInt a : Nat) : Int), p) ∧ laws_heldIntS n p k0 = some (k0 + ((n_LInt a : Nat) : Int)) := by
  obtain ⟨p, h1, h2, h3⟩ := laws_markIntS_i (n := n) a k0 hk0 hb hw hn
  exact ⟨p, h1, laws_heldIntS_i a p h2 k0 hk0 hb hw hn h3⟩
end Go.Sm
end

section
set_option linter.unusedSimpArgs false
set_option linter.deprecated false
set_option linter.unusedSectionVars false
set_option linter.unusedVariables false
set_option linter.unusedSimpArgs false
namespace Go.Sm
attribute [local irreducible] bd chk ix loopN
theorem cin_spec (n : Nat) (x a b : Int) : spec_l1In n x a b = some (decide (a ≤ x ∧ x ≤ b)) := by
  unfold spec_l1In
  by_cases h : a ≤ x <;> by_cases g : x ≤ b <;> simp [h, g]
theorem cin_impl (n : Nat) (x a b : Int) : impl_in n x a b = some (decide (a ≤ x ∧ x ≤ b)) := by
  unfold impl_in
  by_cases h : a ≤ x <;> by_cases g : x ≤ b <;> simp [h, g]
/-! ### Tanks -/
def tankB (t : SCargoTank) : Bool := decide (0 ≤ t.Has ∧ t.Has ≤ t.Most) && (!decide (t.Most > 100000) && (decide (-50 ≤ t.Side ∧ t.Side ≤ 50) && (decide (0 ≤ t.Gas ∧ t.Gas ≤ 1000) && (decide (0 ≤ t.Air ∧ t.Air ≤ 1000) && !decide (w64 (t.Gas + t.Air) > 1000)))))
def tanksB (l : List SCargoTank) : Bool := decide (1 ≤ (l.length : Int) ∧ (l.length : Int) ≤ 12) && (List.range l.length).all fun k => tankB (l.getD k dSCargoTank)
theorem tanks_spec {n : Nat} (l : List SCargoTank) (hl : l.length ≤ 1048576) (hn : 1000000000 < n) : spec_TanksOk n l = some (tanksB l) := by
  unfold spec_TanksOk
  refine (loop_all (len := l.length) (p := fun k => tankB (l.getD k dSCargoTank)) (no := some false) (yes := some (decide (1 ≤ (l.length : Int) ∧ (l.length : Int) ≤ 12))) (by omega) (fun k J hk _ => ?_) (fun J _ => ?_) (by omega)).trans ?_
  · unfold spec_TanksOk_L2 spec_TanksOk_k0
    simp only [Int.ofNat_lt, hk, decide_true, cond_true, ix_nat hk, bd_eq, Int.toNat_natCast, cin_spec, Option.bind_some, w64_succ (show k < 9223372036854775807 by omega)]
    unfold tankB
    generalize l.getD k dSCargoTank = t
    cases decide (0 ≤ t.Has ∧ t.Has ≤ t.Most) <;> cases decide (t.Most > 100000) <;> cases decide (-50 ≤ t.Side ∧ t.Side ≤ 50) <;> cases decide (0 ≤ t.Gas ∧ t.Gas ≤ 1000) <;> cases decide (0 ≤ t.Air ∧ t.Air ≤ 1000) <;> cases decide (w64 (t.Gas + t.Air) > 1000) <;> rfl
  · unfold spec_TanksOk_L2
    simp only [Int.lt_irrefl, decide_false, cond_false, cin_spec, Option.bind_some]
  · unfold tanksB
    cases (List.range l.length).all fun k => tankB (l.getD k dSCargoTank) <;> simp
theorem tank_impl (n : Nat) (t : SCargoTank) : impl_TanksOk_1 n t = some (!tankB t) := by
  unfold impl_TanksOk_1 tankB
  simp only [cin_impl, Option.bind_some]
  cases decide (0 ≤ t.Has ∧ t.Has ≤ t.Most) <;> cases decide (t.Most > 100000) <;> cases decide (-50 ≤ t.Side ∧ t.Side ≤ 50) <;> cases decide (0 ≤ t.Gas ∧ t.Gas ≤ 1000) <;> cases decide (0 ≤ t.Air ∧ t.Air ≤ 1000) <;> cases decide (w64 (t.Gas + t.Air) > 1000) <;> rfl
theorem tanks_impl {n : Nat} (l : List SCargoTank) (hl : l.length ≤ 1048576) (hn : 1000000000 < n) : impl_TanksOk n l = some (tanksB l) := by
  unfold impl_TanksOk slices_ContainsFunc_impl_CargoTank_impl_CargoTank__impl_TanksOk_1 slices_IndexFunc_impl_CargoTank_impl_CargoTank__impl_TanksOk_1
  rw [loop_idx (len := l.length) (p := fun k => !tankB (l.getD k dSCargoTank)) (by omega) (fun k J hk _ => ?_) (fun J _ => ?_) (by omega)]
  · simp only [cin_impl, Option.bind_some, idxOf_ge]
    unfold tanksB
    rw [show (List.range l.length).any (fun k => !tankB (l.getD k dSCargoTank)) = !(List.range l.length).all (fun k => tankB (l.getD k dSCargoTank)) from by rw [List.all_eq_not_any_not, Bool.not_not]]
    cases decide (1 ≤ (l.length : Int) ∧ (l.length : Int) ≤ 12) <;> simp
  · unfold slices_IndexFunc_impl_CargoTank_impl_CargoTank__impl_TanksOk_1_L2
    simp only [Int.ofNat_lt, hk, decide_true, cond_true, ix_nat hk, bd_eq, Int.toNat_natCast, tank_impl, Option.bind_some, w64_succ (show k < 9223372036854775807 by omega)]
  · unfold slices_IndexFunc_impl_CargoTank_impl_CargoTank__impl_TanksOk_1_L2
    simp only [Int.lt_irrefl, decide_false, cond_false]
/-! ### How much a ship leans -/
def leanK (l : List SCargoTank) (k : Nat) : Int := (l.take k).foldl (fun s t => w64 (s + w64 (t.Has * t.Side))) 0
theorem leanK_succ (l : List SCargoTank) {k : Nat} (hk : k < l.length) : leanK l (k + 1) = w64 (leanK l k + w64 ((l.getD k dSCargoTank).Has * (l.getD k dSCargoTank).Side)) := by
  unfold leanK
  rw [take_succ_getD (d := dSCargoTank) hk, List.foldl_append]
  rfl
def sizeI (x : Int) : Int := bif decide (x < 0) then w64 (0 - x) else x
def leanI (l : List SCargoTank) : Int := sizeI (leanK l l.length)
theorem lean_spec {n : Nat} (l : List SCargoTank) (hl : l.length ≤ 1048576) (hn : 1000000000 < n) : spec_l13Lean n l = some (leanI l) := by
  unfold spec_l13Lean
  refine loop_runS (S := Int) (X := Int × Int) (enc := fun i s => (s, i)) (len := l.length) (I := fun k s => s = leanK l k) (Q := fun r => r = some (leanI l)) (fun k s J hk hi => ?_) (fun s J hi => ?_) (n := n) (by omega) (s0 := 0) (by simp [leanK])
  · refine ⟨leanK l (k + 1), rfl, ?_⟩
    unfold spec_l13Lean_L3 spec_l13Lean_k0
    simp only [Int.ofNat_lt, hk, decide_true, cond_true, ix_nat hk, bd_eq, Int.toNat_natCast, w64_succ (show k < 9223372036854775807 by omega)]
    rw [leanK_succ l hk, hi]
  · unfold spec_l13Lean_L3 spec_l3Size
    simp only [Int.lt_irrefl, decide_false, cond_false]
    rw [hi]
    unfold leanI sizeI
    cases decide (leanK l l.length < 0) <;> rfl
theorem leanOf_impl {n : Nat} (l : List SCargoTank) (hl : l.length ≤ 1048576) (hn : 1000000000 < n) : impl_leanOf n l = some (leanK l l.length) := by
  unfold impl_leanOf
  refine loop_runS (S := Int) (X := Int × Int) (enc := fun i s => (s, i)) (len := l.length) (I := fun k s => s = leanK l k) (Q := fun r => r = some (leanK l l.length)) (fun k s J hk hi => ?_) (fun s J hi => ?_) (n := n) (by omega) (s0 := 0) (by simp [leanK])
  · refine ⟨leanK l (k + 1), rfl, ?_⟩
    unfold impl_leanOf_L3
    simp only [Int.ofNat_lt, hk, decide_true, cond_true, ix_nat hk, bd_eq, Int.toNat_natCast, w64_succ (show k < 9223372036854775807 by omega)]
    rw [leanK_succ l hk, hi]
  · unfold impl_leanOf_L3
    simp only [Int.lt_irrefl, decide_false, cond_false]
    rw [hi]
theorem size_impl (n : Nat) (x : Int) : impl_size n x = some (sizeI x) := by
  unfold impl_size sizeI
  cases decide (x < 0) <;> rfl
def burnsB (t : SCargoTank) : Bool := decide (t.Air > 110) && decide (20 ≤ t.Gas ∧ t.Gas ≤ 600)
theorem burns_spec (n : Nat) (t : SCargoTank) : spec_l13Burns n t = some (burnsB t) := by
  unfold spec_l13Burns burnsB
  simp only [cin_spec, Option.bind_some]
  cases decide (t.Air > 110) <;> rfl
theorem burns_impl (n : Nat) (t : SCargoTank) : impl_CargoTank_mayBurn n t = some (burnsB t) := by
  unfold impl_CargoTank_mayBurn burnsB
  simp only [cin_impl, Option.bind_some]
  cases decide (t.Air > 110) <;> rfl
/-! ### What a step does to a tank -/
def cOut (t : SCargoTank) (m : Int) : SCargoTank := ⟨w64 (t.Has - m), t.Most, t.Side, w64 (Int.tdiv (w64 (t.Gas * w64 (w64 (t.Most - w64 (t.Has - m)) - m))) (w64 (t.Most - w64 (t.Has - m)))), w64 (Int.tdiv (w64 (t.Air * w64 (w64 (t.Most - w64 (t.Has - m)) - m))) (w64 (t.Most - w64 (t.Has - m))))⟩
def cIn (t : SCargoTank) (m : Int) : SCargoTank := ⟨w64 (t.Has + m), t.Most, t.Side, t.Gas, t.Air⟩
def cVent (t : SCargoTank) (m : Int) (v : Bool) : SCargoTank := ⟨t.Has, t.Most, t.Side, w64 (Int.tdiv (w64 (t.Gas * w64 (100 - m))) 100), bif v then w64 (w64 (Int.tdiv (w64 (t.Air * w64 (100 - m))) 100) + w64 (10 * m)) else w64 (Int.tdiv (w64 (t.Air * w64 (100 - m))) 100)⟩
theorem cget {l : List SCargoTank} {i : Nat} {x d : SCargoTank} (h : i < l.length) : (l.set i x).getD i d = x := by simp [List.getD, h]
theorem cget_ne {l : List SCargoTank} {i j : Nat} {x d : SCargoTank} (h : j ≠ i) : (l.set i x).getD j d = l.getD j d := by simp [List.getD, List.getElem?_set, Ne.symm h]
theorem out_impl {n : Nat} {l : List SCargoTank} {i : Nat} {m : Int} (hi : i < l.length) (hv : w64 ((l.getD i dSCargoTank).Most - w64 ((l.getD i dSCargoTank).Has - m)) ≠ 0) : impl_CargoTank_out n l i m = some (l.set i (cOut (l.getD i dSCargoTank) m)) := by
  unfold impl_CargoTank_out cOut
  simp only [chk_dec hi, bd_eq, List.length_set, cget hi, List.set_set, decide_eq_false hv, cond_false]
theorem out_spec {n : Nat} {t : SCargoTank} {m : Int} (h0 : 0 ≤ w64 (t.Has - m)) (hv : w64 (t.Most - w64 (t.Has - m)) ≠ 0) : spec_l13Out n t m = some (cOut t m) := by
  unfold spec_l13Out cOut
  simp only [bd_eq, decide_eq_true (show w64 (t.Has - m) ≥ 0 from h0), decide_eq_false hv, cond_true, cond_false]
/-! ### How a step ends -/
def finR (l out : List SCargoTank) (lean : Int) (dry over burns : Bool) : List SCargoTank × Int :=
  bif dry then (l, 2) else bif over then (l, 3) else bif burns then (l, 4) else bif decide (leanI out > lean) && decide (leanI out > leanI l) then (l, 5) else (out, 0)
def finK (n : Nat) (l out : List SCargoTank) (lean : Int) (dry96 over97 burns98 : Bool) : Option (List SCargoTank × Int) :=
  (bif dry96 then some (l, (2 : Int)) else (bif over97 then some (l, (3 : Int)) else (bif burns98 then some (l, (4 : Int)) else (spec_l13Lean n out).bind fun r99 => (bif (decide (r99 > lean)) then (spec_l13Lean n out).bind fun r100 => (spec_l13Lean n l).bind fun r101 => (bif (decide (r100 > r101)) then some (l, (5 : Int)) else some (out, (0 : Int))) else some (out, (0 : Int))))))
theorem finK_eq {n : Nat} {l out : List SCargoTank} {lean : Int} {a b c : Bool} (hl : l.length ≤ 1048576) (ho : out.length ≤ 1048576) (hn : 1000000000 < n) : finK n l out lean a b c = some (finR l out lean a b c) := by
  unfold finK finR
  simp only [lean_spec l hl hn, lean_spec out ho hn, Option.bind_some]
  cases a <;> cases b <;> cases c <;> cases decide (leanI out > lean) <;> cases decide (leanI out > leanI l) <;> rfl
section
variable {R : Type} {n : Nat} {l out : List SCargoTank} {lean : Int} {K : Bool → Bool → Bool → Option R}
theorem round21 {J : Bool → Bool → Bool → Int → Option R} {named : List Int} {i : Nat} {dry over burns : Bool} (hi : i < named.length) (hl : named.length ≤ 1048576) (h0 : 0 ≤ named.getD i 0) (h1 : named.getD i 0 < (out.length : Int)) :
    spec_CargoStep_L21 n K J l lean dry over burns (i : Int) l out named = J (dry || decide ((out.getD (named.getD i 0).toNat dSCargoTank).Has < 0)) (over || decide ((out.getD (named.getD i 0).toNat dSCargoTank).Has > (out.getD (named.getD i 0).toNat dSCargoTank).Most)) (burns || burnsB (out.getD (named.getD i 0).toNat dSCargoTank)) ((i + 1 : Nat) : Int) := by
  unfold spec_CargoStep_L21 spec_CargoStep_k2 spec_CargoStep_k1 spec_CargoStep_k0
  simp only [Int.ofNat_lt, hi, decide_true, cond_true, ix_nat hi, chk_dec (show (i : Int).toNat < named.length from hi), Int.toNat_natCast, ix_of h0 h1, chk_dec (show (named.getD i 0).toNat < out.length by omega), bd_eq, burns_spec, Option.bind_some, w64_succ (show i < 9223372036854775807 by omega), chk_true]
  cases dry <;> cases over <;> cases burns <;> rfl
theorem end21 {J : Bool → Bool → Bool → Int → Option R} {named : List Int} {dry over burns : Bool} : spec_CargoStep_L21 n K J l lean dry over burns (named.length : Int) l out named = K dry over burns := by
  unfold spec_CargoStep_L21
  simp only [Int.lt_irrefl, decide_false, cond_false]
theorem loop1 {a : Int} (h0 : 0 ≤ a) (h1 : a < (out.length : Int)) {f : Nat} (hf : 10 < f) :
    loopN (fun (x : Bool × Bool × Bool × Int) J' => spec_CargoStep_L21 n K (fun dry109 over110 burns111 i112 => J' (dry109, over110, burns111, i112)) l lean x.1 x.2.1 x.2.2.1 x.2.2.2 l out [a]) f (false, false, false, (0 : Int)) =
      K (decide ((out.getD a.toNat dSCargoTank).Has < 0)) (decide ((out.getD a.toNat dSCargoTank).Has > (out.getD a.toNat dSCargoTank).Most)) (burnsB (out.getD a.toNat dSCargoTank)) := by
  obtain ⟨m, rfl⟩ : ∃ m, f = m + 2 := ⟨f - 2, by omega⟩
  rw [loopN_succ]
  refine (round21 (named := [a]) (i := 0) (by simp) (by simp) h0 h1).trans ?_
  rw [loopN_succ]
  exact end21 (named := [a])
theorem loop2 {a b : Int} (h0 : 0 ≤ a) (h1 : a < (out.length : Int)) (g0 : 0 ≤ b) (g1 : b < (out.length : Int)) {f : Nat} (hf : 10 < f) :
    loopN (fun (x : Bool × Bool × Bool × Int) J' => spec_CargoStep_L21 n K (fun dry109 over110 burns111 i112 => J' (dry109, over110, burns111, i112)) l lean x.1 x.2.1 x.2.2.1 x.2.2.2 l out [a, b]) f (false, false, false, (0 : Int)) =
      K (decide ((out.getD a.toNat dSCargoTank).Has < 0) || decide ((out.getD b.toNat dSCargoTank).Has < 0)) (decide ((out.getD a.toNat dSCargoTank).Has > (out.getD a.toNat dSCargoTank).Most) || decide ((out.getD b.toNat dSCargoTank).Has > (out.getD b.toNat dSCargoTank).Most)) (burnsB (out.getD a.toNat dSCargoTank) || burnsB (out.getD b.toNat dSCargoTank)) := by
  obtain ⟨m, rfl⟩ : ∃ m, f = m + 3 := ⟨f - 3, by omega⟩
  rw [loopN_succ]
  refine (round21 (named := [a, b]) (i := 0) (by simp) (by simp) h0 h1).trans ?_
  rw [loopN_succ]
  refine (round21 (named := [a, b]) (i := 1) (by simp) (by simp) g0 g1).trans ?_
  rw [loopN_succ]
  exact end21 (named := [a, b])
end
theorem k3_spec {n : Nat} {l out : List SCargoTank} {lean a : Int} (hl : l.length ≤ 1048576) (ho : out.length = l.length) (hn : 1000000000 < n) (h0 : 0 ≤ a) (h1 : a < (l.length : Int)) :
    spec_CargoStep_k3 n l lean out [a] = some (finR l out lean (decide ((out.getD a.toNat dSCargoTank).Has < 0)) (decide ((out.getD a.toNat dSCargoTank).Has > (out.getD a.toNat dSCargoTank).Most)) (burnsB (out.getD a.toNat dSCargoTank))) := by
  rw [← finK_eq hl (by omega) hn]
  unfold spec_CargoStep_k3
  exact loop1 (K := finK n l out lean) h0 (by omega) (by omega)
theorem k4_spec {n : Nat} {l out : List SCargoTank} {lean a b : Int} (hl : l.length ≤ 1048576) (ho : out.length = l.length) (hn : 1000000000 < n) (h0 : 0 ≤ a) (h1 : a < (l.length : Int)) (g0 : 0 ≤ b) (g1 : b < (l.length : Int)) :
    spec_CargoStep_k4 n l lean out [a, b] = some (finR l out lean (decide ((out.getD a.toNat dSCargoTank).Has < 0) || decide ((out.getD b.toNat dSCargoTank).Has < 0)) (decide ((out.getD a.toNat dSCargoTank).Has > (out.getD a.toNat dSCargoTank).Most) || decide ((out.getD b.toNat dSCargoTank).Has > (out.getD b.toNat dSCargoTank).Most)) (burnsB (out.getD a.toNat dSCargoTank) || burnsB (out.getD b.toNat dSCargoTank))) := by
  rw [← finK_eq hl (by omega) hn]
  unfold spec_CargoStep_k4
  exact loop2 (K := finK n l out lean) h0 (by omega) g0 (by omega) (by omega)
end Go.Sm
end

section
set_option linter.unusedSimpArgs false
set_option linter.deprecated false
set_option linter.unusedSectionVars false
set_option linter.unusedVariables false
set_option linter.unusedSimpArgs false
namespace Go.Sm
attribute [local irreducible] bd chk ix loopN
def lastI (l : List SCargoTank) : Int := w64 ((l.length : Int) - 1)
def opB (l : List SCargoTank) (op : SCargoOp) : Bool := decide (1 ≤ op.Kind ∧ op.Kind ≤ 5) && (decide (0 ≤ op.A ∧ op.A ≤ lastI l) && (bif decide (op.Kind ≥ 4) then decide (1 ≤ op.Many ∧ op.Many ≤ 100) else decide (1 ≤ op.Many ∧ op.Many ≤ 100000) && (bif decide (op.Kind = 3) then decide (0 ≤ op.B ∧ op.B ≤ lastI l) && !decide (op.B = op.A) else true)))
theorem op_spec (n : Nat) (l : List SCargoTank) (op : SCargoOp) : spec_l13Op n l op = some (opB l op) := by
  unfold spec_l13Op spec_l13Op_k0 opB lastI
  simp only [cin_spec, Option.bind_some, bd_eq]
  generalize w64 ((l.length : Int) - 1) = m
  cases decide (1 ≤ op.Kind ∧ op.Kind ≤ 5) <;> cases decide (0 ≤ op.A ∧ op.A ≤ m) <;> cases decide (op.Kind ≥ 4) <;> cases decide (1 ≤ op.Many ∧ op.Many ≤ 100) <;> cases decide (1 ≤ op.Many ∧ op.Many ≤ 100000) <;> cases decide (op.Kind = 3) <;> cases decide (0 ≤ op.B ∧ op.B ≤ m) <;> rfl
def coreR (l : List SCargoTank) (op : SCargoOp) (lean : Int) : List SCargoTank × Int :=
  bif decide (op.Kind = 1) then finR l (l.set op.A.toNat (cIn (l.getD op.A.toNat dSCargoTank) op.Many)) lean false (decide (w64 ((l.getD op.A.toNat dSCargoTank).Has + op.Many) > (l.getD op.A.toNat dSCargoTank).Most)) (burnsB (cIn (l.getD op.A.toNat dSCargoTank) op.Many))
  else bif decide (op.Kind = 2) then (bif decide ((l.getD op.A.toNat dSCargoTank).Has < op.Many) then (l, 2) else finR l (l.set op.A.toNat (cOut (l.getD op.A.toNat dSCargoTank) op.Many)) lean false false (burnsB (cOut (l.getD op.A.toNat dSCargoTank) op.Many)))
  else bif decide (op.Kind = 3) then (bif decide ((l.getD op.A.toNat dSCargoTank).Has < op.Many) then (l, 2) else bif decide (w64 ((l.getD op.B.toNat dSCargoTank).Has + op.Many) > (l.getD op.B.toNat dSCargoTank).Most) then (l, 3) else
    finR l ((l.set op.A.toNat (cOut (l.getD op.A.toNat dSCargoTank) op.Many)).set op.B.toNat (cIn (l.getD op.B.toNat dSCargoTank) op.Many)) lean false false (burnsB (cOut (l.getD op.A.toNat dSCargoTank) op.Many) || burnsB (cIn (l.getD op.B.toNat dSCargoTank) op.Many)))
  else finR l (l.set op.A.toNat (cVent (l.getD op.A.toNat dSCargoTank) op.Many (decide (op.Kind = 5)))) lean false false (burnsB (cVent (l.getD op.A.toNat dSCargoTank) op.Many (decide (op.Kind = 5))))
def stepR (l : List SCargoTank) (op : SCargoOp) (lean : Int) : List SCargoTank × Int :=
  bif tanksB l && (opB l op && decide (0 ≤ lean ∧ lean ≤ 100000000)) then coreR l op lean else (l, 1)
theorem tank_get {l : List SCargoTank} (h : tanksB l = true) {i : Nat} (hi : i < l.length) : tankB (l.getD i dSCargoTank) = true := by
  unfold tanksB at h
  simp only [Bool.and_eq_true] at h
  exact List.all_eq_true.1 h.2 i (List.mem_range.2 hi)
theorem tank_rng {t : SCargoTank} (h : tankB t = true) : 0 ≤ t.Has ∧ t.Has ≤ t.Most ∧ t.Most ≤ 100000 := by
  unfold tankB at h
  simp only [Bool.and_eq_true, decide_eq_true_eq, Bool.not_eq_true', decide_eq_false_iff_not] at h
  omega
theorem op_facts {l : List SCargoTank} {op : SCargoOp} (hl : 1 ≤ l.length ∧ l.length ≤ 1048576) (h : opB l op = true) : (1 ≤ op.Kind ∧ op.Kind ≤ 5) ∧ 0 ≤ op.A ∧ op.A < (l.length : Int) ∧ 1 ≤ op.Many ∧ op.Many ≤ 100000 ∧ (op.Kind ≥ 4 → op.Many ≤ 100) ∧ (op.Kind = 3 → 0 ≤ op.B ∧ op.B < (l.length : Int) ∧ op.B ≠ op.A) := by
  unfold opB lastI at h
  rw [w64_id (by omega) (by omega)] at h
  simp only [Bool.and_eq_true, decide_eq_true_eq] at h
  obtain ⟨h1, h2, h3⟩ := h
  by_cases c : op.Kind ≥ 4
  · rw [decide_eq_true c] at h3
    simp only [cond_true, decide_eq_true_eq] at h3
    exact ⟨h1, by omega, by omega, by omega, by omega, fun _ => by omega, fun h => by omega⟩
  · rw [decide_eq_false c] at h3
    simp only [cond_false, Bool.and_eq_true, decide_eq_true_eq] at h3
    refine ⟨h1, by omega, by omega, by omega, by omega, fun h => by omega, fun h => ?_⟩
    have h4 := h3.2
    rw [decide_eq_true h] at h4
    simp only [cond_true, Bool.and_eq_true, decide_eq_true_eq, Bool.not_eq_true', decide_eq_false_iff_not] at h4
    exact ⟨by omega, by omega, h4.2⟩
theorem tanks_len {l : List SCargoTank} (h : tanksB l = true) : 1 ≤ l.length ∧ l.length ≤ 12 := by
  unfold tanksB at h
  simp only [Bool.and_eq_true, decide_eq_true_eq] at h
  omega
theorem finR_dry {l out : List SCargoTank} {lean : Int} {b c : Bool} : finR l out lean true b c = (l, 2) := rfl
theorem finR_over {l out : List SCargoTank} {lean : Int} {c : Bool} : finR l out lean false true c = (l, 3) := rfl
theorem core_spec {n : Nat} {l : List SCargoTank} {op : SCargoOp} {lean : Int} (hn : 1000000000 < n) (ht : tanksB l = true) (ho : opB l op = true) : spec_CargoStep_k5 n l lean op = some (coreR l op lean) := by
  have hl := tanks_len ht
  obtain ⟨f1, f2, f3, f4, f5, f6, f7⟩ := op_facts ⟨hl.1, by omega⟩ ho
  have hA : op.A.toNat < l.length := by omega
  obtain ⟨r1, r2, r3⟩ := tank_rng (tank_get ht hA)
  unfold spec_CargoStep_k5 coreR
  rw [chk_dec (by omega)]
  by_cases k1 : op.Kind = 1
  · rw [decide_eq_true k1]
    simp only [cond_true, ix_of f2 f3, chk_dec hA, bd_eq, spec_l13In, Option.bind_some]
    rw [k3_spec (by omega) (by simp) hn f2 f3, cget hA]
    have e : w64 ((l.getD op.A.toNat dSCargoTank).Has + op.Many) = (l.getD op.A.toNat dSCargoTank).Has + op.Many := w64_id (by omega) (by omega)
    rw [decide_eq_false (show ¬ w64 ((l.getD op.A.toNat dSCargoTank).Has + op.Many) < 0 by rw [e]; omega)]
    rfl
  rw [decide_eq_false k1]
  have e0 : w64 ((l.getD op.A.toNat dSCargoTank).Has - op.Many) = (l.getD op.A.toNat dSCargoTank).Has - op.Many := w64_id (by omega) (by omega)
  have ev : w64 ((l.getD op.A.toNat dSCargoTank).Most - ((l.getD op.A.toNat dSCargoTank).Has - op.Many)) = (l.getD op.A.toNat dSCargoTank).Most - ((l.getD op.A.toNat dSCargoTank).Has - op.Many) := w64_id (by omega) (by omega)
  have hv : w64 ((l.getD op.A.toNat dSCargoTank).Most - w64 ((l.getD op.A.toNat dSCargoTank).Has - op.Many)) ≠ 0 := by rw [e0, ev]; omega
  by_cases k2 : op.Kind = 2
  · rw [decide_eq_true k2]
    simp only [cond_true, cond_false, ix_of f2 f3, chk_dec hA, bd_eq]
    by_cases hd : (l.getD op.A.toNat dSCargoTank).Has < op.Many
    · rw [decide_eq_true hd]
      unfold spec_l13Out
      rw [decide_eq_false (show ¬ w64 ((l.getD op.A.toNat dSCargoTank).Has - op.Many) ≥ 0 by rw [e0]; omega)]
      simp only [cond_true, cond_false, Option.bind_some]
      rw [k3_spec (by omega) (by simp) hn f2 f3, cget hA, decide_eq_true (show w64 ((l.getD op.A.toNat dSCargoTank).Has - op.Many) < 0 by rw [e0]; omega)]
      rfl
    · rw [decide_eq_false hd, out_spec (by rw [e0]; omega) hv]
      simp only [cond_false, Option.bind_some]
      rw [k3_spec (by omega) (by simp) hn f2 f3, cget hA]
      have d1 : decide ((cOut (l.getD op.A.toNat dSCargoTank) op.Many).Has < 0) = false := decide_eq_false (show ¬ w64 ((l.getD op.A.toNat dSCargoTank).Has - op.Many) < 0 by rw [e0]; omega)
      have d2 : decide ((cOut (l.getD op.A.toNat dSCargoTank) op.Many).Has > (cOut (l.getD op.A.toNat dSCargoTank) op.Many).Most) = false := decide_eq_false (show ¬ w64 ((l.getD op.A.toNat dSCargoTank).Has - op.Many) > (l.getD op.A.toNat dSCargoTank).Most by rw [e0]; omega)
      rw [d1, d2]
  rw [decide_eq_false k2]
  by_cases k3 : op.Kind = 3
  · obtain ⟨g0, g1, g2⟩ := f7 k3
    have hB : op.B.toNat < l.length := by omega
    have hne : op.B.toNat ≠ op.A.toNat := by omega
    obtain ⟨s1, s2, s3⟩ := tank_rng (tank_get ht hB)
    have eb : w64 ((l.getD op.B.toNat dSCargoTank).Has + op.Many) = (l.getD op.B.toNat dSCargoTank).Has + op.Many := w64_id (by omega) (by omega)
    have db : decide ((cIn (l.getD op.B.toNat dSCargoTank) op.Many).Has < 0) = false := decide_eq_false (show ¬ w64 ((l.getD op.B.toNat dSCargoTank).Has + op.Many) < 0 by rw [eb]; omega)
    rw [decide_eq_true k3]
    simp only [cond_true, cond_false, ix_of f2 f3, chk_dec hA, bd_eq]
    by_cases hd : (l.getD op.A.toNat dSCargoTank).Has < op.Many
    · rw [decide_eq_true hd]
      unfold spec_l13Out
      rw [decide_eq_false (show ¬ w64 ((l.getD op.A.toNat dSCargoTank).Has - op.Many) ≥ 0 by rw [e0]; omega)]
      simp only [cond_true, cond_false, Option.bind_some, List.length_set, ix_of g0 g1, chk_dec hB, spec_l13In, cget_ne hne]
      rw [k4_spec (by omega) (by simp) hn f2 f3 g0 g1, cget_ne (Ne.symm hne), cget hA, decide_eq_true (show w64 ((l.getD op.A.toNat dSCargoTank).Has - op.Many) < 0 by rw [e0]; omega)]
      rfl
    · rw [decide_eq_false hd, out_spec (by rw [e0]; omega) hv]
      simp only [cond_true, cond_false, Option.bind_some, List.length_set, ix_of g0 g1, chk_dec hB, spec_l13In, cget_ne hne]
      rw [k4_spec (by omega) (by simp) hn f2 f3 g0 g1, cget_ne (Ne.symm hne), cget hA, cget (by simpa using hB)]
      have d1 : decide ((cOut (l.getD op.A.toNat dSCargoTank) op.Many).Has < 0) = false := decide_eq_false (show ¬ w64 ((l.getD op.A.toNat dSCargoTank).Has - op.Many) < 0 by rw [e0]; omega)
      have d2 : decide ((cOut (l.getD op.A.toNat dSCargoTank) op.Many).Has > (cOut (l.getD op.A.toNat dSCargoTank) op.Many).Most) = false := decide_eq_false (show ¬ w64 ((l.getD op.A.toNat dSCargoTank).Has - op.Many) > (l.getD op.A.toNat dSCargoTank).Most by rw [e0]; omega)
      rw [d1, d2]
      show some (finR l _ lean (false || decide ((cIn (l.getD op.B.toNat dSCargoTank) op.Many).Has < 0)) (false || decide (w64 ((l.getD op.B.toNat dSCargoTank).Has + op.Many) > (l.getD op.B.toNat dSCargoTank).Most)) _) = _
      rw [db]
      cases decide (w64 ((l.getD op.B.toNat dSCargoTank).Has + op.Many) > (l.getD op.B.toNat dSCargoTank).Most) <;> rfl
  · rw [decide_eq_false k3]
    simp only [cond_true, cond_false, ix_of f2 f3, chk_dec hA, bd_eq, List.length_set, cget hA, List.set_set]
    by_cases k5 : op.Kind = 5
    · rw [decide_eq_true k5]
      simp only [cond_true, cond_false, ix_of f2 f3, chk_dec hA, bd_eq, List.length_set, cget hA, List.set_set]
      rw [k3_spec (by omega) (by simp) hn f2 f3, cget hA, decide_eq_false (show ¬ (l.getD op.A.toNat dSCargoTank).Has < 0 by omega), decide_eq_false (show ¬ (l.getD op.A.toNat dSCargoTank).Has > (l.getD op.A.toNat dSCargoTank).Most by omega)]
      rfl
    · rw [decide_eq_false k5]
      simp only [cond_true, cond_false]
      rw [k3_spec (by omega) (by simp) hn f2 f3, cget hA, decide_eq_false (show ¬ (l.getD op.A.toNat dSCargoTank).Has < 0 by omega), decide_eq_false (show ¬ (l.getD op.A.toNat dSCargoTank).Has > (l.getD op.A.toNat dSCargoTank).Most by omega)]
      rfl
theorem step_spec {n : Nat} {l : List SCargoTank} {op : SCargoOp} {lean : Int} (hl : l.length ≤ 1048576) (hn : 1000000000 < n) : spec_CargoStep n l op lean = some (stepR l op lean) := by
  unfold spec_CargoStep stepR
  rw [chk_dec (by omega)]
  simp only [tanks_spec l hl hn, op_spec, cin_spec, Option.bind_some]
  cases h1 : tanksB l with
  | false => rfl
  | true =>
    cases h2 : opB l op with
    | false => rfl
    | true =>
      cases decide (0 ≤ lean ∧ lean ≤ 100000000) with
      | false => rfl
      | true => exact core_spec hn h1 h2
end Go.Sm
end

section
set_option linter.unusedSimpArgs false
set_option linter.deprecated false
set_option linter.unusedSectionVars false
set_option linter.unusedVariables false
set_option linter.unusedSimpArgs false
namespace Go.Sm
attribute [local irreducible] bd chk ix loopN
theorem own_tanks (n : Nat) (l : List SCargoTank) (hl : l.length ≤ 1048576) : impl_own_impl_CargoTank n l = some l := by
  unfold impl_own_impl_CargoTank
  rw [chk_dec (by omega), chk_dec (by omega), chk_dec (by omega)]
section
variable {n : Nat} {l out : List SCargoTank} {lean : Int}
theorem k1_impl (hl : l.length ≤ 1048576) (ho : out.length ≤ 1048576) (hn : 1000000000 < n) : impl_CargoStep_k1 n l lean l out = some (finR l out lean false false false) := by
  unfold impl_CargoStep_k1 finR
  simp only [leanOf_impl l hl hn, leanOf_impl out ho hn, size_impl, Option.bind_some]
  unfold leanI
  cases decide (sizeI (leanK out out.length) > lean) <;> cases decide (sizeI (leanK out out.length) > sizeI (leanK l l.length)) <;> rfl
theorem k6_impl (hl : l.length ≤ 1048576) (ho : out.length ≤ 1048576) (hn : 1000000000 < n) : impl_CargoStep_k6 n l lean l out = some (finR l out lean false false false) := k1_impl hl ho hn
theorem finR_burn {c : Bool} : (bif c then some (l, (4 : Int)) else some (finR l out lean false false false)) = some (finR l out lean false false c) := by cases c <;> rfl
theorem k2_impl {a b : Nat} {op : SCargoOp} (hl : l.length ≤ 1048576) (ho : out.length ≤ 1048576) (hn : 1000000000 < n) (ha : a < out.length) (hk : op.Kind ≠ 3) : impl_CargoStep_k2 n l lean a b op l out = some (finR l out lean false false (burnsB (out.getD a dSCargoTank))) := by
  unfold impl_CargoStep_k2
  rw [chk_dec ha]
  simp only [bd_eq, burns_impl, Option.bind_some, decide_eq_false hk, cond_false, k1_impl hl ho hn]
  exact finR_burn
theorem k9_impl {a b : Nat} {op : SCargoOp} (hl : l.length ≤ 1048576) (ho : out.length ≤ 1048576) (hn : 1000000000 < n) (ha : a < out.length) (hb : b < out.length) (hk : op.Kind = 3) : impl_CargoStep_k9 n l lean a b op l out = some (finR l out lean false false (burnsB (out.getD a dSCargoTank) || burnsB (out.getD b dSCargoTank))) := by
  unfold impl_CargoStep_k9
  rw [chk_dec ha, chk_dec hb]
  simp only [bd_eq, burns_impl, Option.bind_some, decide_eq_true hk, cond_true, k6_impl hl ho hn]
  cases burnsB (out.getD a dSCargoTank) with
  | true => rfl
  | false => exact finR_burn
end
theorem core14 {n : Nat} {l : List SCargoTank} {op : SCargoOp} {lean : Int} (hn : 1000000000 < n) (ht : tanksB l = true) (ho : opB l op = true) (hk : op.Kind ≥ 4) : impl_CargoStep_k14 n l lean op l = some (coreR l op lean) := by
  have hl := tanks_len ht
  obtain ⟨f1, f2, f3, f4, f5, f6, f7⟩ := op_facts ⟨hl.1, by omega⟩ ho
  have hA : op.A.toNat < l.length := by omega
  unfold impl_CargoStep_k14 coreR
  rw [own_tanks n l (by omega), Option.bind_some, ix_of f2 f3, decide_eq_false (show ¬ op.Kind = 1 by omega), decide_eq_false (show ¬ op.Kind = 2 by omega), decide_eq_false (show ¬ op.Kind = 3 by omega)]
  simp only [cond_false]
  unfold impl_CargoStep_k13
  simp only [cond_true, cond_false, chk_dec hA, bd_eq, List.length_set, cget hA, List.set_set, burns_impl, Option.bind_some, decide_eq_false (show ¬ op.Kind = 3 by omega)]
  by_cases k5 : op.Kind = 5
  · rw [decide_eq_true k5]
    simp only [cond_true, cond_false, chk_dec hA, bd_eq, List.length_set, cget hA, List.set_set, burns_impl, Option.bind_some]
    rw [k1_impl (by omega) (by simp; omega) hn]
    exact finR_burn
  · rw [decide_eq_false k5]
    simp only [cond_true, cond_false]
    rw [k1_impl (by omega) (by simp; omega) hn]
    exact finR_burn
theorem core21 {n : Nat} {l : List SCargoTank} {op : SCargoOp} {lean : Int} (hn : 1000000000 < n) (ht : tanksB l = true) (ho : opB l op = true) (hk : ¬ op.Kind ≥ 4) : impl_CargoStep_k21 n l lean op l = some (coreR l op lean) := by
  have hl := tanks_len ht
  obtain ⟨f1, f2, f3, f4, f5, f6, f7⟩ := op_facts ⟨hl.1, by omega⟩ ho
  have hA : op.A.toNat < l.length := by omega
  obtain ⟨r1, r2, r3⟩ := tank_rng (tank_get ht hA)
  unfold impl_CargoStep_k21 coreR
  rw [own_tanks n l (by omega), Option.bind_some, ix_of f2 f3]
  by_cases k1 : op.Kind = 1
  · rw [decide_eq_true k1]
    simp only [cond_true]
    unfold impl_CargoStep_k17 impl_CargoStep_k16
    simp only [chk_dec hA, bd_eq]
    have e := k2_impl (a := op.A.toNat) (b := op.A.toNat) (op := op) (lean := lean) (out := l.set op.A.toNat (cIn (l.getD op.A.toNat dSCargoTank) op.Many)) (show l.length ≤ 1048576 by omega) (by simp; omega) hn (by simpa using hA) (show op.Kind ≠ 3 by omega)
    rw [cget hA] at e
    unfold cIn at e ⊢
    rw [e]
    cases decide (w64 ((l.getD op.A.toNat dSCargoTank).Has + op.Many) > (l.getD op.A.toNat dSCargoTank).Most) <;> rfl
  have e0 : w64 ((l.getD op.A.toNat dSCargoTank).Has - op.Many) = (l.getD op.A.toNat dSCargoTank).Has - op.Many := w64_id (by omega) (by omega)
  have ev : w64 ((l.getD op.A.toNat dSCargoTank).Most - ((l.getD op.A.toNat dSCargoTank).Has - op.Many)) = (l.getD op.A.toNat dSCargoTank).Most - ((l.getD op.A.toNat dSCargoTank).Has - op.Many) := w64_id (by omega) (by omega)
  have hv : w64 ((l.getD op.A.toNat dSCargoTank).Most - w64 ((l.getD op.A.toNat dSCargoTank).Has - op.Many)) ≠ 0 := by rw [e0, ev]; omega
  rw [decide_eq_false k1]
  by_cases k2 : op.Kind = 2
  · rw [decide_eq_true k2]
    simp only [cond_true, cond_false, chk_dec hA]
    cases decide ((l.getD op.A.toNat dSCargoTank).Has < op.Many) with
    | true => rfl
    | false =>
      simp only [cond_false]
      unfold impl_CargoStep_k18
      simp only [chk_dec hA, out_impl hA hv, Option.bind_some, List.length_set, decide_true, chk_true, bd_eq, cget hA, burns_impl, decide_eq_false (show ¬ op.Kind = 3 by omega), cond_false]
      rw [k6_impl (by omega) (by simp; omega) hn]
      exact finR_burn
  · have k3 : op.Kind = 3 := by omega
    obtain ⟨g0, g1, g2⟩ := f7 k3
    have hB : op.B.toNat < l.length := by omega
    have hne : op.B.toNat ≠ op.A.toNat := by omega
    rw [decide_eq_false k2, decide_eq_true k3]
    simp only [cond_true, cond_false, chk_dec hA, ix_of g0 g1]
    unfold impl_CargoStep_k20
    cases decide ((l.getD op.A.toNat dSCargoTank).Has < op.Many) with
    | true => rfl
    | false =>
      simp only [cond_false, chk_dec hB, bd_eq]
      cases decide (w64 ((l.getD op.B.toNat dSCargoTank).Has + op.Many) > (l.getD op.B.toNat dSCargoTank).Most) with
      | true => rfl
      | false =>
        simp only [cond_false, chk_dec hA, out_impl hA hv, Option.bind_some, List.length_set, decide_true, chk_true]
        unfold impl_CargoStep_k19
        simp only [List.length_set, chk_dec hB, bd_eq, cget_ne hne]
        have e := k9_impl (a := op.A.toNat) (b := op.B.toNat) (op := op) (lean := lean) (out := (l.set op.A.toNat (cOut (l.getD op.A.toNat dSCargoTank) op.Many)).set op.B.toNat (cIn (l.getD op.B.toNat dSCargoTank) op.Many)) (show l.length ≤ 1048576 by omega) (by simp; omega) hn (by simpa using hA) (by simpa using hB) k3
        rw [cget_ne (Ne.symm hne), cget hA, cget (by simpa using hB)] at e
        exact e
theorem step_impl {n : Nat} {l : List SCargoTank} {op : SCargoOp} {lean : Int} (hl : l.length ≤ 1048576) (hn : 1000000000 < n) : impl_CargoStep n l op lean = some (stepR l op lean) := by
  unfold impl_CargoStep stepR
  rw [own_tanks n l hl, Option.bind_some]
  simp only [bd_eq]
  by_cases k : op.Kind ≥ 4
  · have h15 : impl_CargoStep_k15 n l lean (w64 ((l.length : Int) - 1)) op l = some (bif tanksB l && (opB l op && decide (0 ≤ lean ∧ lean ≤ 100000000)) then coreR l op lean else (l, 1)) := by
      unfold impl_CargoStep_k15
      simp only [tanks_impl l hl hn, cin_impl, Option.bind_some, decide_eq_false (show ¬ op.Kind = 3 by omega), cond_false]
      cases h1 : tanksB l with
      | false => rfl
      | true =>
        cases h2 : opB l op with
        | false =>
          unfold opB lastI at h2
          rw [decide_eq_true k, cond_true] at h2
          revert h2
          cases decide (1 ≤ op.Kind ∧ op.Kind ≤ 5) <;> cases decide (0 ≤ op.A ∧ op.A ≤ w64 ((l.length : Int) - 1)) <;> cases decide (1 ≤ op.Many ∧ op.Many ≤ 100) <;> intro h2 <;> first | rfl | cases h2
        | true =>
          have h3 := core14 (lean := lean) hn h1 h2 k
          unfold opB lastI at h2
          rw [decide_eq_true k, cond_true] at h2
          simp only [Bool.and_eq_true] at h2
          rw [h2.1, h2.2.1, h2.2.2]
          simp only [Bool.not_true, cond_false, Bool.true_and]
          cases decide (0 ≤ lean ∧ lean ≤ 100000000) with
          | false => rfl
          | true => exact h3
    by_cases k4 : op.Kind = 4
    · rw [decide_eq_true k4]; exact h15
    · rw [decide_eq_false k4]
      by_cases k5 : op.Kind = 5
      · rw [decide_eq_true k5]; exact h15
      · rw [decide_eq_false k5]
        simp only [cond_false]
        unfold impl_CargoStep_k22
        simp only [tanks_impl l hl hn, cin_impl, Option.bind_some]
        have d : decide (1 ≤ op.Kind ∧ op.Kind ≤ 5) = false := decide_eq_false (by omega)
        unfold opB
        rw [d]
        cases tanksB l <;> rfl
  · rw [decide_eq_false (show ¬ op.Kind = 4 by omega), decide_eq_false (show ¬ op.Kind = 5 by omega)]
    simp only [cond_false]
    unfold impl_CargoStep_k22
    simp only [tanks_impl l hl hn, cin_impl, Option.bind_some]
    cases h1 : tanksB l with
    | false => rfl
    | true =>
      cases h2 : opB l op with
      | false =>
        unfold opB lastI at h2
        rw [decide_eq_false k, cond_false] at h2
        revert h2
        cases decide (1 ≤ op.Kind ∧ op.Kind ≤ 5) <;> cases decide (0 ≤ op.A ∧ op.A ≤ w64 ((l.length : Int) - 1)) <;> cases decide (1 ≤ op.Many ∧ op.Many ≤ 100000) <;> cases decide (op.Kind = 3) <;> cases decide (0 ≤ op.B ∧ op.B ≤ w64 ((l.length : Int) - 1)) <;> cases decide (op.B = op.A) <;> intro h2 <;> first | rfl | cases h2
      | true =>
        have h3 := core21 (lean := lean) hn h1 h2 k
        unfold opB lastI at h2
        rw [decide_eq_false k, cond_false] at h2
        simp only [Bool.and_eq_true] at h2
        obtain ⟨q1, q2, q3, q4⟩ := h2
        rw [q1, q2, q3]
        simp only [Bool.not_true, cond_false, Bool.true_and]
        revert q4
        cases decide (op.Kind = 3) with
        | false =>
          intro _
          simp only [cond_false]
          cases decide (0 ≤ lean ∧ lean ≤ 100000000) with
          | false => rfl
          | true => exact h3
        | true =>
          simp only [cond_true, Bool.and_eq_true]
          rintro ⟨q5, q6⟩
          rw [q5]
          cases hb : decide (op.B = op.A) with
          | true => rw [hb] at q6; cases q6
          | false =>
            simp only [Bool.not_true, cond_false]
            cases decide (0 ≤ lean ∧ lean ≤ 100000000) with
            | false => rfl
            | true => exact h3
theorem finR_len {l out : List SCargoTank} {lean : Int} {a b c : Bool} (h : out.length = l.length) : (finR l out lean a b c).1.length = l.length := by
  unfold finR
  cases a <;> cases b <;> cases c <;> cases (decide (leanI out > lean) && decide (leanI out > leanI l)) <;> simp [h]
theorem stepR_len (l : List SCargoTank) (op : SCargoOp) (lean : Int) : (stepR l op lean).1.length = l.length := by
  unfold stepR coreR
  cases tanksB l && (opB l op && decide (0 ≤ lean ∧ lean ≤ 100000000)) with
  | false => rfl
  | true =>
    simp only [cond_true]
    cases decide (op.Kind = 1) <;> cases decide (op.Kind = 2) <;> cases decide (op.Kind = 3) <;> cases decide ((l.getD op.A.toNat dSCargoTank).Has < op.Many) <;> cases decide (w64 ((l.getD op.B.toNat dSCargoTank).Has + op.Many) > (l.getD op.B.toNat dSCargoTank).Most) <;> simp only [cond_true, cond_false] <;> first | rfl | (refine finR_len ?_; simp only [List.length_set])
end Go.Sm
end

section
set_option linter.unusedSimpArgs false
set_option linter.deprecated false
set_option linter.unusedSectionVars false
set_option linter.unusedVariables false
set_option linter.unusedSimpArgs false
namespace Go.Sm
attribute [local irreducible] bd chk ix loopN
def runK (l : List SCargoTank) (lean : Int) (ops : List SCargoOp) : List SCargoTank × List Int := ops.foldl (fun s op => ((stepR s.1 op lean).1, s.2 ++ [(stepR s.1 op lean).2])) (l, [])
theorem runK_succ (l : List SCargoTank) (lean : Int) (ops : List SCargoOp) {k : Nat} (hk : k < ops.length) : runK l lean (ops.take (k + 1)) = ((stepR (runK l lean (ops.take k)).1 (ops.getD k dSCargoOp) lean).1, (runK l lean (ops.take k)).2 ++ [(stepR (runK l lean (ops.take k)).1 (ops.getD k dSCargoOp) lean).2]) := by
  unfold runK
  rw [take_succ_getD (d := dSCargoOp) hk, List.foldl_append]
  rfl
theorem runK_len (l : List SCargoTank) (lean : Int) (ops : List SCargoOp) : ∀ k, k ≤ ops.length → (runK l lean (ops.take k)).1.length = l.length ∧ (runK l lean (ops.take k)).2.length = k
  | 0, _ => ⟨rfl, rfl⟩
  | k + 1, h => by
    obtain ⟨h1, h2⟩ := runK_len l lean ops k (by omega)
    rw [runK_succ l lean ops (by omega)]
    exact ⟨(stepR_len _ _ _).trans h1, by simp [h2]⟩
def runR (l : List SCargoTank) (lean : Int) (ops : List SCargoOp) : List SCargoTank × List Int := if ops.length ≤ 100 then runK l lean ops else (l, [])
theorem run_spec {n : Nat} {l : List SCargoTank} {ops : List SCargoOp} {lean : Int} (hl : l.length ≤ 1048576) (hp : ops.length ≤ 1048576) (hn : 1000000000 < n) : spec_CargoRun n l ops lean = some (runR l lean ops) := by
  unfold spec_CargoRun runR
  rw [chk_dec (by omega)]
  by_cases h100 : ops.length ≤ 100
  · rw [if_pos h100]
    refine loop_runS (S := List SCargoTank × List Int) (X := Int × List SCargoTank × List Int) (enc := fun i s => (i, s.1, s.2)) (len := ops.length) (I := fun k s => s = runK l lean (ops.take k)) (Q := fun r => r = some (runK l lean ops)) (fun k s J hk hi => ?_) (fun s J hi => ?_) (n := n) (by omega) (s0 := (l, [])) rfl
    · refine ⟨runK l lean (ops.take (k + 1)), rfl, ?_⟩
      obtain ⟨g1, g2⟩ := runK_len l lean ops k (by omega)
      subst hi
      unfold spec_CargoRun_L4 spec_CargoRun_k0
      simp only [Int.ofNat_lt, hk, decide_true, cond_true, ix_nat hk, bd_eq, Int.toNat_natCast, decide_eq_true (show (ops.length : Int) ≤ 100 by omega), step_spec (l := (runK l lean (ops.take k)).1) (show _ ≤ 1048576 by omega) hn, Option.bind_some, w64_succ (show k < 9223372036854775807 by omega)]
      rw [chk_dec (by simp; omega), runK_succ l lean ops hk]
    · unfold spec_CargoRun_L4
      simp only [Int.lt_irrefl, decide_false, cond_false]
      rw [hi, List.take_length]
  · rw [if_neg h100]
    obtain ⟨m, rfl⟩ : ∃ m, n = m + 1 := ⟨n - 1, by omega⟩
    rw [loopN_succ]
    unfold spec_CargoRun_L4 spec_CargoRun_k0
    rw [decide_eq_true (show (0 : Int) < (ops.length : Int) by omega), decide_eq_false (show ¬ (ops.length : Int) ≤ 100 by omega)]
    rfl
theorem own_codes (n : Nat) (l : List Int) (hl : l.length ≤ 1048576) : impl_own_int n l = some l := by
  unfold impl_own_int
  rw [chk_dec (by omega), chk_dec (by omega), chk_dec (by omega)]
theorem run_impl {n : Nat} {l : List SCargoTank} {ops : List SCargoOp} {lean : Int} (hl : l.length ≤ 1048576) (hp : ops.length ≤ 1048576) (hn : 1000000000 < n) : impl_CargoRun n l ops lean = some (runR l lean ops) := by
  unfold impl_CargoRun runR
  rw [own_tanks n l hl, Option.bind_some]
  by_cases h100 : ops.length ≤ 100
  · rw [if_pos h100, decide_eq_false (show ¬ (ops.length : Int) > 100 by omega), cond_false]
    refine loop_runS (S := List SCargoTank × List Int) (X := Int × List SCargoTank × List Int) (enc := fun i s => (i, s.1, s.2)) (len := ops.length) (I := fun k s => s = runK l lean (ops.take k)) (Q := fun r => r = some (runK l lean ops)) (fun k s J hk hi => ?_) (fun s J hi => ?_) (n := n) (by omega) (s0 := (l, [])) rfl
    · refine ⟨runK l lean (ops.take (k + 1)), rfl, ?_⟩
      obtain ⟨g1, g2⟩ := runK_len l lean ops k (by omega)
      subst hi
      unfold impl_CargoRun_L6
      simp only [Int.ofNat_lt, hk, decide_true, cond_true, ix_nat hk, bd_eq, Int.toNat_natCast, step_impl (l := (runK l lean (ops.take k)).1) (show _ ≤ 1048576 by omega) hn, Option.bind_some, w64_succ (show k < 9223372036854775807 by omega)]
      rw [chk_dec (by simp; omega), runK_succ l lean ops hk]
    · unfold impl_CargoRun_L6
      simp only [Int.lt_irrefl, decide_false, cond_false]
      have g := runK_len l lean ops ops.length (Nat.le_refl _)
      rw [List.take_length] at g hi
      subst hi
      rw [own_codes n _ (by omega)]
      rfl
  · rw [if_neg h100, decide_eq_true (show (ops.length : Int) > 100 by omega), cond_true]
theorem runR_len (l : List SCargoTank) (lean : Int) (ops : List SCargoOp) : (runR l lean ops).1.length = l.length ∧ (runR l lean ops).2.length ≤ 100 := by
  unfold runR
  by_cases h100 : ops.length ≤ 100
  · rw [if_pos h100]
    have g := runK_len l lean ops ops.length (Nat.le_refl _)
    rw [List.take_length] at g
    exact ⟨g.1, by omega⟩
  · rw [if_neg h100]; exact ⟨rfl, Nat.zero_le _⟩
theorem laws_FnExactCargoRun_true (aList0 : List SCargoTank) (aOps1 : List SCargoOp) (aLean2 : Int) (h0 : (aList0.length ≤ 9223372036854775807 ∧ ∀ y ∈ aList0, wfSCargoTank y)) (h1 : (aOps1.length ≤ 9223372036854775807 ∧ ∀ y ∈ aOps1, wfSCargoOp y)) (h2 : rng (-9223372036854775808) 9223372036854775807 aLean2) : ∃ n, laws_FnExactCargoRun n aList0 aOps1 aLean2 = some true := by
  refine ⟨1000000001, ?_⟩
  generalize hN : (1000000001 : Nat) = n
  have hn : 1000000000 < n := by omega
  unfold laws_FnExactCargoRun
  rw [laws_szCargoTankS_ok (n := n) aList0 (left := 1048576) h0 (by omega) (by omega) hn, Option.bind_some]
  refine guard_sz fun hw => ?_
  rw [if_pos (by omega), laws_szCargoOpS_ok (n := n) aOps1 (left := 1048576 - (w_LSCargoTank aList0 : Int)) h1 (by omega) (by omega) hn, Option.bind_some]
  by_cases hw2 : (w_LSCargoOp aOps1 : Int) ≤ 1048576 - (w_LSCargoTank aList0 : Int)
  · rw [if_pos hw2, decide_eq_false (by omega), cond_false]
    have w1 : w_LSCargoTank aList0 = aList0.length := rfl
    have w2 : w_LSCargoOp aOps1 = aOps1.length := rfl
    have hS := run_spec (n := n) (l := aList0) (ops := aOps1) (lean := aLean2) (by omega) (by omega) hn
    have hI := run_impl (n := n) (l := aList0) (ops := aOps1) (lean := aLean2) (by omega) (by omega) hn
    obtain ⟨c1, c2⟩ := runR_len aList0 aLean2 aOps1
    generalize runR aList0 aLean2 aOps1 = R at *
    obtain ⟨R1, R2⟩ := R
    dsimp only at c1 c2
    have n1 := n_LSCargoTank_le aList0
    have n2 := n_LSCargoOp_le aOps1
    have n3 := n_LSCargoTank_le R1
    have n4 := n_LInt_le R2
    have w3 : w_LSCargoTank R1 = R1.length := rfl
    have w4 : w_LInt R2 = R2.length := rfl
    obtain ⟨u1, m1, _⟩ := laws_markCargoTankS_ok (n := n) aList0 1 (by omega) (by omega) (by omega) hn
    obtain ⟨u2, m2⟩ := laws_markCargoOpS_ok (n := n) aOps1 (1 + ((n_LSCargoTank aList0 : Nat) : Int)) (by omega) (by omega) (by omega) hn
    obtain ⟨v1, p1, p2⟩ := laws_markCargoTankS_ok (n := n) R1 1 (by omega) (by omega) (by omega) hn
    obtain ⟨v2, p3, p4⟩ := laws_markIntS_ok (n := n) R2 (1 + ((n_LSCargoTank R1 : Nat) : Int)) (by omega) (by omega) (by omega) hn
    have d1 : decide (1 + ((n_LSCargoTank aList0 : Nat) : Int) + ((n_LSCargoOp aOps1 : Nat) : Int) < 0) = false := decide_eq_false (by omega)
    have d2 : decide (1 + ((n_LSCargoTank R1 : Nat) : Int) < 0) = false := decide_eq_false (by omega)
    have d3 : decide (1 + ((n_LSCargoTank R1 : Nat) : Int) + ((n_LInt R2 : Nat) : Int) < 0) = false := decide_eq_false (by omega)
    unfold laws_FnExactCargoRun_k5 laws_FnExactCargoRun_k4 laws_FnExactCargoRun_k3 laws_FnExactCargoRun_k2 laws_FnExactCargoRun_k1 laws_FnExactCargoRun_k0
    simp only [laws_toCargoTankS_ok aList0 (show _ ≤ 100000000 by omega) hn, laws_toCargoOpS_ok aOps1 (show _ ≤ 100000000 by omega) hn, hS, hI, Option.bind_some, laws_eqCargoTankS_ok aList0 (show _ ≤ 100000000 by omega) hn, laws_eqCargoOpS_ok aOps1 (show _ ≤ 100000000 by omega) hn, laws_eqCargoTankS_ok R1 (show _ ≤ 100000000 by omega) hn, laws_eqIntS_ok R2 (show _ ≤ 100000000 by omega) hn,
      m1, m2, p1, p2, p3, p4, d1, d2, d3, decide_true, beq_self_eq_true, Bool.not_true, cond_false, cond_true]
  · rw [if_neg hw2]; rfl
end Go.Sm
end
