import Derived.Test.YtefibegfcfbcjaaEngA
/- The functions as plain functions over data, and that the law answers true for all arguments. RunYard: a run of deeds in a yard by the written-out way and by the built one comes to the same, for every yard and all deeds. -/
section
set_option linter.unusedSimpArgs false
set_option linter.deprecated false
set_option linter.unusedSectionVars false
set_option linter.unusedVariables false
namespace Go.Sm
structure SYard where
  High : Int
  Stacks : List (List Int)
structure SYardOp where
  Kind : Int
  Box : Int
  Stack : Int
def dSYard : SYard := ⟨(0 : Int), []⟩
def dSYardOp : SYardOp := ⟨(0 : Int), (0 : Int), (0 : Int)⟩
def laws_szIntS (n : Nat) (a0 : List Int) (left1 : Int) : Option Int :=
  (bd (w64 (left1 - (a0.length : Int))) fun (v1 : Int) => (bif (decide (v1 < (0 : Int))) then some ((-1 : Int)) else some (v1)))
def laws_szIntSS_L5 {R : Type} (n : Nat) (kx0 : Int → Option R) (kxr : Int → Option R) (J : Int → Int → Option R) (a3 : List (List Int)) (left4 : Int) (i5 : Int) : Option R :=
  (bif (decide (i5 < (a3.length : Int))) then ix i5 a3.length ((laws_szIntS n (a3.getD i5.toNat []) left4).bind fun r11 => (bif (decide (r11 < (0 : Int))) then kxr (-1 : Int) else J r11 (w64 (i5 + (1 : Int))))) else kx0 left4)
def laws_szIntSS (n : Nat) (a0 : List (List Int)) (left1 : Int) : Option Int :=
  (bd (w64 (left1 - (a0.length : Int))) fun (v1 : Int) => (bif (decide (v1 < (0 : Int))) then some ((-1 : Int)) else loopN (fun (x : Int × Int) J' => laws_szIntSS_L5 n (fun left18 => some (left18)) (fun t19 => some (t19)) (fun left20 i21 => J' (left20, i21)) a0 x.1 x.2) n (v1, (0 : Int))))
def laws_szYard (n : Nat) (a0 : SYard) (left1 : Int) : Option Int :=
  (laws_szIntSS n a0.Stacks left1).bind fun r1 => (bif (decide (r1 < (0 : Int))) then some ((-1 : Int)) else some (r1))
def laws_szYardOpS (n : Nat) (a0 : List SYardOp) (left1 : Int) : Option Int :=
  (bd (w64 (left1 - (a0.length : Int))) fun (v1 : Int) => (bif (decide (v1 < (0 : Int))) then some ((-1 : Int)) else some (v1)))
def laws_toIntS_L3 {R : Type} (n : Nat) (kx0 : List Int → Option R) (J : Int → List Int → Option R) (a1 : List Int) (i2 : Int) (out3 : List Int) : Option R :=
  (bif (decide (i2 < (a1.length : Int))) then ix i2 a1.length (ix i2 out3.length (chk (decide (i2.toNat < out3.length)) ((bd (out3.set i2.toNat (a1.getD i2.toNat (0 : Int))) fun (l7 : List Int) => J (w64 (i2 + (1 : Int))) l7)))) else kx0 out3)
def laws_toIntS (n : Nat) (a0 : List Int) : Option (List Int) :=
  chk (decide ((0 : Int) ≤ (a0.length : Int))) (chk (decide ((a0.length : Int) ≤ (a0.length : Int))) (chk (decide ((a0.length : Int) ≤ 9223372036854775807 ∧ (a0.length : Int) * (8 : Int) ≤ 281474976710656)) (loopN (fun (x : Int × List Int) J' => laws_toIntS_L3 n (fun out8 => some (out8)) (fun i9 out10 => J' (i9, out10)) a0 x.1 x.2) n ((0 : Int), (List.replicate (a0.length : Int).toNat (0 : Int))))))
def laws_toIntSS_L3 {R : Type} (n : Nat) (kx0 : List (List Int) → Option R) (J : Int → List (List Int) → Option R) (a1 : List (List Int)) (i2 : Int) (out3 : List (List Int)) : Option R :=
  (bif (decide (i2 < (a1.length : Int))) then ix i2 a1.length ((laws_toIntS n (a1.getD i2.toNat [])).bind fun r7 => ix i2 out3.length (chk (decide (i2.toNat < out3.length)) (J (w64 (i2 + (1 : Int))) (out3.set i2.toNat r7)))) else kx0 out3)
def laws_toIntSS (n : Nat) (a0 : List (List Int)) : Option (List (List Int)) :=
  chk (decide ((0 : Int) ≤ (a0.length : Int))) (chk (decide ((a0.length : Int) ≤ (a0.length : Int))) (chk (decide ((a0.length : Int) ≤ 9223372036854775807 ∧ (a0.length : Int) * (24 : Int) ≤ 281474976710656)) (loopN (fun (x : Int × List (List Int)) J' => laws_toIntSS_L3 n (fun out8 => some (out8)) (fun i9 out10 => J' (i9, out10)) a0 x.1 x.2) n ((0 : Int), (List.replicate (a0.length : Int).toNat [])))))
def laws_toYard (n : Nat) (a0 : SYard) : Option SYard :=
  (laws_toIntSS n a0.Stacks).bind fun r1 => some ((⟨a0.High, r1⟩ : SYard))
def laws_toYardOp (n : Nat) (a0 : SYardOp) : Option SYardOp :=
  some (a0)
def laws_toYardOpS_L3 {R : Type} (n : Nat) (kx0 : List SYardOp → Option R) (J : Int → List SYardOp → Option R) (a1 : List SYardOp) (i2 : Int) (out3 : List SYardOp) : Option R :=
  (bif (decide (i2 < (a1.length : Int))) then ix i2 a1.length ((bd (a1.getD i2.toNat dSYardOp) fun (e8 : SYardOp) => (laws_toYardOp n e8).bind fun r9 => ix i2 out3.length (chk (decide (i2.toNat < out3.length)) (J (w64 (i2 + (1 : Int))) (out3.set i2.toNat r9))))) else kx0 out3)
def laws_toYardOpS (n : Nat) (a0 : List SYardOp) : Option (List SYardOp) :=
  chk (decide ((0 : Int) ≤ (a0.length : Int))) (chk (decide ((a0.length : Int) ≤ (a0.length : Int))) (chk (decide ((a0.length : Int) ≤ 9223372036854775807 ∧ (a0.length : Int) * (24 : Int) ≤ 281474976710656)) (loopN (fun (x : Int × List SYardOp) J' => laws_toYardOpS_L3 n (fun out10 => some (out10)) (fun i11 out12 => J' (i11, out12)) a0 x.1 x.2) n ((0 : Int), (List.replicate (a0.length : Int).toNat dSYardOp)))))
def spec_l18Copy_L3 {R : Type} (n : Nat) (kx0 : List (List Int) → Option R) (J : Int → List (List Int) → Option R) (s1 : Int) (y2 : SYard) (t3 : Int) (c4 : List (List Int)) (out5 : Int) (c6 : List (List Int)) : Option R :=
  (bif (decide (s1 < (y2.Stacks.length : Int))) then ix s1 y2.Stacks.length (chk (decide ((y2.Stacks.getD s1.toNat []).length * 8 ≤ 140737488355328)) ((bd (c6 ++ [(y2.Stacks.getD s1.toNat [])]) fun (l10 : List (List Int)) => chk (decide (l10.length * 24 ≤ 140737488355328)) (J (w64 (s1 + (1 : Int))) l10)))) else kx0 c6)
def spec_l18Copy (n : Nat) (y0 : SYard) : Option SYard :=
  loopN (fun (x : Int × List (List Int)) J' => spec_l18Copy_L3 n (fun c11 => some ((⟨y0.High, c11⟩ : SYard))) (fun s12 c13 => J' (s12, c13)) x.1 y0 (0 : Int) [] y0.High x.2) n ((0 : Int), [])
def spec_l1In (n : Nat) (x0 : Int) (a1 : Int) (b2 : Int) : Option Bool :=
  (bif (decide (x0 ≥ a1)) then some ((decide (x0 ≤ b2))) else some (false))
def spec_l18Count_L6 {R : Type} (n : Nat) (kx2 : Int → Option R) (J : Int → Int → Option R) (box7 : Int) (n8 : Int) (s9 : Int) (t10 : Int) (y11 : SYard) : Option R :=
  ix s9 y11.Stacks.length ((bif (decide (t10 < ((y11.Stacks.getD s9.toNat []).length : Int))) then ix s9 y11.Stacks.length (ix t10 ((y11.Stacks.getD s9.toNat []).length) ((bif (decide (((y11.Stacks.getD s9.toNat []).getD t10.toNat (0 : Int)) = box7)) then J (w64 (n8 + (1 : Int))) (w64 (t10 + (1 : Int))) else J n8 (w64 (t10 + (1 : Int)))))) else kx2 n8))
def spec_l18Count_L3 {R : Type} (n : Nat) (kx0 : Int → Option R) (J : Int → Int → Option R) (box1 : Int) (n2 : Int) (s3 : Int) (y4 : SYard) : Option R :=
  (bif (decide (s3 < (y4.Stacks.length : Int))) then loopN (fun (x : Int × Int) J' => spec_l18Count_L6 n (fun n25 => J n25 (w64 (s3 + (1 : Int)))) (fun n26 t27 => J' (n26, t27)) box1 x.1 s3 x.2 y4) n (n2, (0 : Int)) else kx0 n2)
def spec_l18Count (n : Nat) (y0 : SYard) (box1 : Int) : Option Int :=
  loopN (fun (x : Int × Int) J' => spec_l18Count_L3 n (fun n28 => some (n28)) (fun n29 s30 => J' (n29, s30)) box1 x.1 x.2 y0) n ((0 : Int), (0 : Int))
def spec_YardOk_L4 {R : Type} (n : Nat) (kx0 : Option R) (kxr : Bool → Option R) (J : Int → Option R) (s4 : Int) (y5 : SYard) : Option R :=
  (bif (decide (s4 < (y5.Stacks.length : Int))) then ix s4 y5.Stacks.length ((bif (decide (((y5.Stacks.getD s4.toNat []).length : Int) > y5.High)) then kxr false else J (w64 (s4 + (1 : Int))))) else kx0)
def spec_YardOk_k0 {R : Type} (n : Nat) (kx4 : Option R) (kxr : Bool → Option R) (J : Int → Option R) (s12 : Int) (t15 : Int) (y14 : SYard) : Option R :=
  ix s12 y14.Stacks.length (ix t15 ((y14.Stacks.getD s12.toNat []).length) ((spec_l1In n ((y14.Stacks.getD s12.toNat []).getD t15.toNat (0 : Int)) (1 : Int) (1000000 : Int)).bind fun r16 => (bif (!r16) then kxr false else ix s12 y14.Stacks.length (ix t15 ((y14.Stacks.getD s12.toNat []).length) ((spec_l18Count n y14 ((y14.Stacks.getD s12.toNat []).getD t15.toNat (0 : Int))).bind fun r18 => (bif (!(decide (r18 = (1 : Int)))) then kxr false else J (w64 (t15 + (1 : Int)))))))))
def spec_YardOk_L12 {R : Type} (n : Nat) (kx4 : Option R) (kxr : Bool → Option R) (J : Int → Option R) (s12 : Int) (t13 : Int) (y14 : SYard) : Option R :=
  ix s12 y14.Stacks.length ((bif (decide (t13 < ((y14.Stacks.getD s12.toNat []).length : Int))) then spec_YardOk_k0 n kx4 kxr J s12 t13 y14 else kx4))
def spec_YardOk_L9 {R : Type} (n : Nat) (kx2 : Option R) (kxr : Bool → Option R) (J : Int → Option R) (s9 : Int) (y10 : SYard) : Option R :=
  (bif (decide (s9 < (y10.Stacks.length : Int))) then loopN (fun (x : Int) J' => spec_YardOk_L12 n (J (w64 (s9 + (1 : Int)))) (fun t25 => kxr t25) J' s9 x y10) n ((0 : Int)) else kx2)
def spec_YardOk (n : Nat) (y0 : SYard) : Option Bool :=
  (spec_l1In n y0.High (1 : Int) (6 : Int)).bind fun r1 => (bif (!r1) then some (false) else (spec_l1In n (y0.Stacks.length : Int) (1 : Int) (12 : Int)).bind fun r2 => (bif (!r2) then some (false) else loopN (fun (x : Int) J' => spec_YardOk_L4 n (loopN (fun (x : Int) J' => spec_YardOk_L9 n (some (true)) (fun t35 => some (t35)) J' x y0) n ((0 : Int))) (fun t37 => some (t37)) J' x y0) n ((0 : Int))))
def spec_l18Op (n : Nat) (y0 : SYard) (op1 : SYardOp) : Option Bool :=
  (bd (w64 ((y0.Stacks.length : Int) - (1 : Int))) fun (v1 : Int) => (bif (decide (op1.Kind = (1 : Int))) then (spec_l1In n op1.Stack (0 : Int) v1).bind fun r2 => (bif r2 then (spec_l1In n op1.Box (1 : Int) (1000000 : Int)).bind fun r3 => some (r3) else some (false)) else (bif (decide (op1.Kind = (3 : Int))) then (spec_l1In n op1.Stack (0 : Int) v1).bind fun r5 => (bif r5 then (spec_l1In n op1.Box (0 : Int) v1).bind fun r6 => (bif r6 then some ((!(decide (op1.Box = op1.Stack)))) else some (false)) else some (false)) else some ((decide (op1.Kind = (2 : Int)))))))
def spec_FindBox_L5 {R : Type} (n : Nat) (kx2 : Option R) (kxr : Int → Bool → Option R) (J : Int → Option R) (box8 : Int) (s9 : Int) (t10 : Int) (y11 : SYard) : Option R :=
  ix s9 y11.Stacks.length ((bif (decide (t10 < ((y11.Stacks.getD s9.toNat []).length : Int))) then ix s9 y11.Stacks.length (ix t10 ((y11.Stacks.getD s9.toNat []).length) ((bif (decide (((y11.Stacks.getD s9.toNat []).getD t10.toNat (0 : Int)) = box8)) then kxr t10 true else J (w64 (t10 + (1 : Int)))))) else kx2))
def spec_FindBox_L2 {R : Type} (n : Nat) (kx0 : Option R) (kxr : Int → Int → Bool → Option R) (J : Int → Option R) (box1 : Int) (s2 : Int) (y3 : SYard) : Option R :=
  (bif (decide (s2 < (y3.Stacks.length : Int))) then (spec_YardOk n y3).bind fun r4 => (bif r4 then loopN (fun (x : Int) J' => spec_FindBox_L5 n (J (w64 (s2 + (1 : Int)))) (fun t22 t23 => kxr s2 t22 t23) J' box1 s2 x y3) n ((0 : Int)) else kx0) else kx0)
def spec_FindBox (n : Nat) (y0 : SYard) (box1 : Int) : Option (Int × Int × Bool) :=
  loopN (fun (x : Int) J' => spec_FindBox_L2 n (some ((-1 : Int), (-1 : Int), false)) (fun t26 t27 t28 => some (t26, t27, t28)) J' box1 x y0) n ((0 : Int))
def spec_l18Shift (n : Nat) (y0 : SYard) (from1 : Int) (to2 : Int) : Option (List (List Int)) :=
  ix from1 y0.Stacks.length (chk (decide (from1.toNat < y0.Stacks.length)) (chk (decide (from1.toNat < y0.Stacks.length)) ((bd (w64 (((y0.Stacks.getD from1.toNat []).length : Int) - (1 : Int))) fun (v1 : Int) => ix to2 y0.Stacks.length (chk (decide (to2.toNat < y0.Stacks.length)) (ix from1 y0.Stacks.length (chk (decide (from1.toNat < y0.Stacks.length)) (chk (decide (from1.toNat < y0.Stacks.length)) (ix v1 ((y0.Stacks.getD from1.toNat []).length) (chk (decide (from1.toNat < y0.Stacks.length)) (chk (decide (v1.toNat < (y0.Stacks.getD from1.toNat []).length)) (chk (decide (to2.toNat < y0.Stacks.length)) (chk (decide (((y0.Stacks.getD to2.toNat []) ++ [((y0.Stacks.getD from1.toNat []).getD v1.toNat (0 : Int))]).length * 8 ≤ 140737488355328)) (ix to2 y0.Stacks.length (chk (decide (to2.toNat < y0.Stacks.length)) (chk (decide (to2.toNat = to2.toNat)) ((bd (y0.Stacks.set to2.toNat ((y0.Stacks.getD to2.toNat []) ++ [((y0.Stacks.getD from1.toNat []).getD v1.toNat (0 : Int))])) fun (l2 : List (List Int)) => ix from1 l2.length (chk (decide (from1.toNat < l2.length)) (chk (decide (from1.toNat < l2.length)) (chk (decide ((0 : Int) ≤ v1)) (chk (decide (v1 ≤ ((l2.getD from1.toNat []).length : Int))) (ix from1 l2.length (chk (decide (from1.toNat < l2.length)) (chk (decide ((0 + (v1.toNat - 0)) ≤ (l2.getD from1.toNat []).length)) (chk (decide (from1.toNat < l2.length)) (chk (decide (from1.toNat = from1.toNat)) ((bd (l2.set from1.toNat (((l2.getD from1.toNat []).drop 0).take (v1.toNat - 0))) fun (l3 : List (List Int)) => some (l3))))))))))))))))))))))))))))))
def spec_DoYard_k0 (n : Nat)  (op1 : SYardOp) (out14 : Int) (t15 : List (List Int)) : Option (SYard × Int × Int) :=
  ix op1.Stack t15.length (chk (decide (op1.Stack.toNat < t15.length)) (chk (decide (op1.Stack.toNat < t15.length)) (chk (decide (((t15.getD op1.Stack.toNat []) ++ [op1.Box]).length * 8 ≤ 140737488355328)) (ix op1.Stack t15.length (chk (decide (op1.Stack.toNat < t15.length)) (chk (decide (op1.Stack.toNat = op1.Stack.toNat)) ((bd (t15.set op1.Stack.toNat ((t15.getD op1.Stack.toNat []) ++ [op1.Box])) fun (l16 : List (List Int)) => some ((⟨out14, l16⟩ : SYard), (0 : Int), (0 : Int))))))))))
def spec_DoYard_k1 (n : Nat)  (y0 : SYard) (op1 : SYardOp) (out12 : Int) (t13 : List (List Int)) : Option (SYard × Int × Int) :=
  ix op1.Stack t13.length (chk (decide (op1.Stack.toNat < t13.length)) (chk (decide (op1.Stack.toNat < t13.length)) ((bif (decide (((t13.getD op1.Stack.toNat []).length : Int) = y0.High)) then some ((⟨out12, t13⟩ : SYard), (0 : Int), (4 : Int)) else spec_DoYard_k0 n  op1 out12 t13))))
def spec_DoYard_k2 (n : Nat)  (y0 : SYard) (op1 : SYardOp) (out17 : Int) (t18 : List (List Int)) : Option (SYard × Int × Int) :=
  ix op1.Stack t18.length (chk (decide (op1.Stack.toNat < t18.length)) (chk (decide (op1.Stack.toNat < t18.length)) ((bif (decide (((t18.getD op1.Stack.toNat []).length : Int) = y0.High)) then some ((⟨out17, t18⟩ : SYard), (0 : Int), (4 : Int)) else (spec_l18Shift n (⟨out17, t18⟩ : SYard) op1.Box op1.Stack).bind fun r22 => some ((⟨out17, r22⟩ : SYard), (0 : Int), (0 : Int))))))
def spec_DoYard_k3 {R : Type} (n : Nat) (kx3 : Int → Option R) (J : Int → Int → Option R) (s42 : Int) (t43 : Int) (many44 : Int) (best52 : Int) (k53 : Int) (y47 : SYard) (t48 : Int) (c49 : List (List Int)) (out50 : Int) (c51 : List (List Int)) : Option R :=
  (bif (!(decide (k53 = s42))) then ix k53 c51.length (chk (decide (k53.toNat < c51.length)) (chk (decide (k53.toNat < c51.length)) ((bif (decide (((c51.getD k53.toNat []).length : Int) < y47.High)) then (bif (decide (best52 < (0 : Int))) then J k53 (w64 (k53 + (1 : Int))) else ix k53 c51.length (chk (decide (k53.toNat < c51.length)) (chk (decide (k53.toNat < c51.length)) (ix best52 c51.length (chk (decide (best52.toNat < c51.length)) (chk (decide (best52.toNat < c51.length)) ((bif (decide (((c51.getD k53.toNat []).length : Int) < ((c51.getD best52.toNat []).length : Int))) then J k53 (w64 (k53 + (1 : Int))) else J best52 (w64 (k53 + (1 : Int))))))))))) else J best52 (w64 (k53 + (1 : Int))))))) else J best52 (w64 (k53 + (1 : Int))))
def spec_DoYard_L26 {R : Type} (n : Nat) (kx3 : Int → Option R) (J : Int → Int → Option R) (s42 : Int) (t43 : Int) (many44 : Int) (best45 : Int) (k46 : Int) (y47 : SYard) (t48 : Int) (c49 : List (List Int)) (out50 : Int) (c51 : List (List Int)) : Option R :=
  (bif (decide (k46 < (c51.length : Int))) then spec_DoYard_k3 n kx3 J s42 t43 many44 best45 k46 y47 t48 c49 out50 c51 else kx3 best45)
def spec_DoYard_k4 {R : Type} (n : Nat) (kx1 : Int → List (List Int) → Option R) (kxr : Int → Int → Int → List (List Int) → Option R) (J : Int → List (List Int) → Option R) (s32 : Int) (t33 : Int) (many40 : Int) (y35 : SYard) (t36 : Int) (c37 : List (List Int)) (out38 : Int) (c41 : List (List Int)) : Option R :=
  loopN (fun (x : Int × Int) J' => spec_DoYard_L26 n (fun best81 => (bif (decide (best81 < (0 : Int))) then (spec_l18Copy n y35).bind fun r82 => kxr (0 : Int) (4 : Int) r82.High r82.Stacks else (spec_l18Shift n (⟨out38, c41⟩ : SYard) s32 best81).bind fun r88 => (bd (w64 (many40 + (1 : Int))) fun (v89 : Int) => J v89 r88))) (fun best90 k91 => J' (best90, k91)) s32 t33 many40 x.1 x.2 y35 t36 c37 out38 c41) n ((-1 : Int), (0 : Int))
def spec_DoYard_L23 {R : Type} (n : Nat) (kx1 : Int → List (List Int) → Option R) (kxr : Int → Int → Int → List (List Int) → Option R) (J : Int → List (List Int) → Option R) (s32 : Int) (t33 : Int) (many34 : Int) (y35 : SYard) (t36 : Int) (c37 : List (List Int)) (out38 : Int) (c39 : List (List Int)) : Option R :=
  ix s32 c39.length (chk (decide (s32.toNat < c39.length)) (chk (decide (s32.toNat < c39.length)) ((bif (decide (((c39.getD s32.toNat []).length : Int) > (w64 (t33 + (1 : Int))))) then spec_DoYard_k4 n kx1 kxr J s32 t33 many34 y35 t36 c37 out38 c39 else kx1 many34 c39))))
def spec_DoYard_k5 (n : Nat)  (s28 : Int) (t29 : Int) (y0 : SYard) (out30 : Int) (t31 : List (List Int)) : Option (SYard × Int × Int) :=
  loopN (fun (x : Int × List (List Int)) J' => spec_DoYard_L23 n (fun many92 c93 => ix s28 c93.length (chk (decide (s28.toNat < c93.length)) (chk (decide (s28.toNat < c93.length)) (chk (decide ((0 : Int) ≤ t29)) (chk (decide (t29 ≤ ((c93.getD s28.toNat []).length : Int))) (ix s28 c93.length (chk (decide (s28.toNat < c93.length)) (chk (decide ((0 + (t29.toNat - 0)) ≤ (c93.getD s28.toNat []).length)) (chk (decide (s28.toNat < c93.length)) (chk (decide (s28.toNat = s28.toNat)) ((bd (c93.set s28.toNat (((c93.getD s28.toNat []).drop 0).take (t29.toNat - 0))) fun (l94 : List (List Int)) => some ((⟨out30, l94⟩ : SYard), many92, (0 : Int)))))))))))))) (fun t95 t96 t97 c98 => some ((⟨t97, c98⟩ : SYard), t95, t96)) (fun many99 c100 => J' (many99, c100)) s28 t29 x.1 y0 (0 : Int) [] out30 x.2) n ((0 : Int), t31)
def spec_DoYard_k6 (n : Nat)  (y0 : SYard) (op1 : SYardOp) (out9 : Int) (t10 : List (List Int)) : Option (SYard × Int × Int) :=
  (spec_FindBox n y0 op1.Box).bind fun r11 => (bif (decide (op1.Kind = (1 : Int))) then (bif r11.2.2 then some ((⟨out9, t10⟩ : SYard), (0 : Int), (2 : Int)) else spec_DoYard_k1 n  y0 op1 out9 t10) else (bif (decide (op1.Kind = (3 : Int))) then ix op1.Box t10.length (chk (decide (op1.Box.toNat < t10.length)) (chk (decide (op1.Box.toNat < t10.length)) ((bif (decide (((t10.getD op1.Box.toNat []).length : Int) = (0 : Int))) then some ((⟨out9, t10⟩ : SYard), (0 : Int), (3 : Int)) else spec_DoYard_k2 n  y0 op1 out9 t10)))) else (bif (!r11.2.2) then some ((⟨out9, t10⟩ : SYard), (0 : Int), (3 : Int)) else spec_DoYard_k5 n  r11.1 r11.2.1 y0 out9 t10)))
def spec_DoYard (n : Nat) (y0 : SYard) (op1 : SYardOp) : Option (SYard × Int × Int) :=
  (spec_l18Copy n y0).bind fun r1 => (spec_YardOk n y0).bind fun r2 => (bif (!r2) then some (r1, (0 : Int), (1 : Int)) else (spec_l18Op n y0 op1).bind fun r5 => (bif (!r5) then some (r1, (0 : Int), (1 : Int)) else spec_DoYard_k6 n  y0 op1 r1.High r1.Stacks))
def spec_RunYard_k0 {R : Type} (n : Nat) (kx0 : Int → Int → List (List Int) → List Int → Option R) (J : Int → Int → Int → List (List Int) → List Int → Option R) (ops2 : List SYardOp) (sum16 : Int) (i17 : Int) (t5 : Int) (c6 : List (List Int)) (out18 : Int) (c19 : List (List Int)) (codes20 : List Int) : Option R :=
  ix i17 ops2.length ((bd (ops2.getD i17.toNat dSYardOp) fun (e21 : SYardOp) => (spec_DoYard n (⟨out18, c19⟩ : SYard) e21).bind fun r22 => chk (decide ((codes20 ++ [r22.2.2]).length * 8 ≤ 140737488355328)) (J (w64 (sum16 + r22.2.1)) (w64 (i17 + (1 : Int))) r22.1.High r22.1.Stacks (codes20 ++ [r22.2.2]))))
def spec_RunYard_L5 {R : Type} (n : Nat) (kx0 : Int → Int → List (List Int) → List Int → Option R) (J : Int → Int → Int → List (List Int) → List Int → Option R) (ops2 : List SYardOp) (sum3 : Int) (i4 : Int) (t5 : Int) (c6 : List (List Int)) (out7 : Int) (c8 : List (List Int)) (codes9 : List Int) : Option R :=
  (bif (decide (i4 < (ops2.length : Int))) then (bif (decide ((ops2.length : Int) ≤ (200 : Int))) then spec_RunYard_k0 n kx0 J ops2 sum3 i4 t5 c6 out7 c8 codes9 else kx0 sum3 out7 c8 codes9) else kx0 sum3 out7 c8 codes9)
def spec_RunYard (n : Nat) (y0 : SYard) (ops1 : List SYardOp) : Option (SYard × List Int × Int) :=
  (spec_l18Copy n y0).bind fun r1 => loopN (fun (x : Int × Int × Int × List (List Int) × List Int) J' => spec_RunYard_L5 n (fun sum33 out34 c35 codes36 => some ((⟨out34, c35⟩ : SYard), codes36, sum33)) (fun sum37 i38 out39 c40 codes41 => J' (sum37, i38, out39, c40, codes41)) ops1 x.1 x.2.1 (0 : Int) [] x.2.2.1 x.2.2.2.1 x.2.2.2.2) n ((0 : Int), (0 : Int), r1.High, r1.Stacks, [])
def impl_own_int (n : Nat) (l0 : List (List Int)) : Option (List (List Int)) :=
  chk (decide ((0 : Int) ≤ (l0.length : Int))) (chk (decide ((l0.length : Int) ≤ 9223372036854775807 ∧ (l0.length : Int) * (24 : Int) ≤ 281474976710656)) (chk (decide (l0.length * 24 ≤ 140737488355328)) (some (l0))))
def impl_own_int_f104 (n : Nat) (l0 : List Int) : Option (List Int) :=
  chk (decide ((0 : Int) ≤ (l0.length : Int))) (chk (decide ((l0.length : Int) ≤ 9223372036854775807 ∧ (l0.length : Int) * (8 : Int) ≤ 281474976710656)) (chk (decide (l0.length * 8 ≤ 140737488355328)) (some (l0))))
def impl_Yard_own_k0 {R : Type} (n : Nat) (kx0 : (List (List Int)) × Nat → Option R) (J : Int → (List (List Int)) × Nat → Option R) (t2 : Int) (t8 : Int) (y4 : SYard) (t5 : Int) (c6 : List (List Int)) (l9 : Nat) (l10 : List (List Int)) : Option R :=
  ix t8 l10.length (chk (decide (t8.toNat < l10.length)) ((bif (decide (t8.toNat < l9)) then chk (decide (t8.toNat < l10.length)) ((impl_own_int_f104 n (l10.getD t8.toNat [])).bind fun r11 => ix t8 l10.length (chk (decide (t8.toNat < l10.length)) ((bif (decide (t8.toNat = l9)) then J (w64 (t8 + (1 : Int))) ((l10.set t8.toNat r11), (l9 + 1)) else J (w64 (t8 + (1 : Int))) ((l10.set t8.toNat r11), l9))))) else (impl_own_int_f104 n (l10.getD t8.toNat [])).bind fun r12 => ix t8 l10.length (chk (decide (t8.toNat < l10.length)) ((bif (decide (t8.toNat = l9)) then J (w64 (t8 + (1 : Int))) ((l10.set t8.toNat r12), (l9 + 1)) else J (w64 (t8 + (1 : Int))) ((l10.set t8.toNat r12), l9)))))))
def impl_Yard_own_L3 {R : Type} (n : Nat) (kx0 : (List (List Int)) × Nat → Option R) (J : Int → (List (List Int)) × Nat → Option R) (t2 : Int) (t3 : Int) (y4 : SYard) (t5 : Int) (c6 : List (List Int)) (l7 : (List (List Int)) × Nat) : Option R :=
  (bif (decide (t3 < t2)) then impl_Yard_own_k0 n kx0 J t2 t3 y4 t5 c6 l7.2 l7.1 else kx0 (l7.1, l7.2))
def impl_Yard_own (n : Nat) (y0 : SYard) : Option SYard :=
  (impl_own_int n y0.Stacks).bind fun r1 => loopN (fun (x : Int × ((List (List Int)) × Nat)) J' => impl_Yard_own_L3 n (fun l13 => chk (decide (l13.1.length ≤ l13.2)) (some ((⟨y0.High, l13.1⟩ : SYard)))) (fun t14 l15 => J' (t14, l15)) (r1.length : Int) x.1 y0 (0 : Int) [] x.2) n ((0 : Int), (r1, 0))
def impl_in (n : Nat) (n0 : Int) (least1 : Int) (most2 : Int) : Option Bool :=
  (bif (decide (n0 ≥ least1)) then some ((decide (n0 ≤ most2))) else some (false))
def impl_idRight (n : Nat) (n0 : Int) : Option Bool :=
  (impl_in n n0 (1 : Int) (1000000 : Int)).bind fun r1 => some (r1)
def impl_YardOk_k0 {R : Type} (n : Nat) (kx2 : List (Int × Bool) → Option R) (kxr : Bool → Option R) (J : Int → List (Int × Bool) → Option R) (t14 : List (List Int)) (t15 : Int) (t16 : Int) (t17 : List Int) (t18 : Int) (t22 : Int) (y20 : SYard) (t23 : List (Int × Bool)) : Option R :=
  ix t22 t17.length ((impl_idRight n (t17.getD t22.toNat (0 : Int))).bind fun r24 => (bif (!r24) then kxr false else (bd (mgetI t23 (t17.getD t22.toNat (0 : Int))) fun (g28 : Option Bool) => (bif (g28.getD false) then kxr false else (bd (mputI t23 (t17.getD t22.toNat (0 : Int)) true) fun (m43 : List (Int × Bool)) => J (w64 (t22 + (1 : Int))) m43)))))
def impl_YardOk_L10 {R : Type} (n : Nat) (kx2 : List (Int × Bool) → Option R) (kxr : Bool → Option R) (J : Int → List (Int × Bool) → Option R) (t14 : List (List Int)) (t15 : Int) (t16 : Int) (t17 : List Int) (t18 : Int) (t19 : Int) (y20 : SYard) (t21 : List (Int × Bool)) : Option R :=
  (bif (decide (t19 < t18)) then impl_YardOk_k0 n kx2 kxr J t14 t15 t16 t17 t18 t19 y20 t21 else kx2 t21)
def impl_YardOk_k1 {R : Type} (n : Nat) (kx0 : Option R) (kxr : Bool → Option R) (J : Int → List (Int × Bool) → Option R) (t4 : List (List Int)) (t5 : Int) (t9 : Int) (y7 : SYard) (t10 : List (Int × Bool)) : Option R :=
  ix t9 t4.length ((bif (decide (((t4.getD t9.toNat []).length : Int) > y7.High)) then kxr false else loopN (fun (x : Int × (List (Int × Bool))) J' => impl_YardOk_L10 n (fun t52 => J (w64 (t9 + (1 : Int))) t52) (fun t55 => kxr t55) (fun t56 t57 => J' (t56, t57)) t4 t5 t9 (t4.getD t9.toNat []) ((t4.getD t9.toNat []).length : Int) x.1 y7 x.2) n ((0 : Int), t10)))
def impl_YardOk_L5 {R : Type} (n : Nat) (kx0 : Option R) (kxr : Bool → Option R) (J : Int → List (Int × Bool) → Option R) (t4 : List (List Int)) (t5 : Int) (t6 : Int) (y7 : SYard) (t8 : List (Int × Bool)) : Option R :=
  (bif (decide (t6 < t5)) then impl_YardOk_k1 n kx0 kxr J t4 t5 t6 y7 t8 else kx0)
def impl_YardOk (n : Nat) (y0 : SYard) : Option Bool :=
  (impl_in n y0.High (1 : Int) (6 : Int)).bind fun r1 => (bif (!r1) then some (false) else (impl_in n (y0.Stacks.length : Int) (1 : Int) (12 : Int)).bind fun r2 => (bif (!r2) then some (false) else loopN (fun (x : Int × (List (Int × Bool))) J' => impl_YardOk_L5 n (some (true)) (fun t64 => some (t64)) (fun t65 t66 => J' (t65, t66)) y0.Stacks (y0.Stacks.length : Int) x.1 y0 x.2) n ((0 : Int), [])))
def slices_Index_int_int_L2 {R : Type} (n : Nat) (kx0 : Option R) (kxr : Int → Option R) (J : Int → Option R) (s1 : List Int) (v2 : Int) (t3 : Int) (t4 : Int) : Option R :=
  (bif (decide (t4 < t3)) then ix t4 s1.length ((bif (decide (v2 = (s1.getD t4.toNat (0 : Int)))) then kxr t4 else J (w64 (t4 + (1 : Int))))) else kx0)
def slices_Index_int_int (n : Nat) (s0 : List Int) (v1 : Int) : Option Int :=
  loopN (fun (x : Int) J' => slices_Index_int_int_L2 n (some ((-1 : Int))) (fun t8 => some (t8)) J' s0 v1 (s0.length : Int) x) n ((0 : Int))
def impl_FindBox_L3 {R : Type} (n : Nat) (kx0 : Option R) (kxr : Int → Int → Bool → Option R) (J : Int → Option R) (box2 : Int) (t3 : List (List Int)) (t4 : Int) (t5 : Int) : Option R :=
  (bif (decide (t5 < t4)) then ix t5 t3.length ((slices_Index_int_int n (t3.getD t5.toNat []) box2).bind fun r9 => (bif (decide (r9 ≥ (0 : Int))) then kxr t5 r9 true else J (w64 (t5 + (1 : Int))))) else kx0)
def impl_FindBox (n : Nat) (y0 : SYard) (box1 : Int) : Option (Int × Int × Bool) :=
  (impl_YardOk n y0).bind fun r1 => (bif r1 then loopN (fun (x : Int) J' => impl_FindBox_L3 n (some ((-1 : Int), (-1 : Int), false)) (fun t11 t12 t13 => some (t11, t12, t13)) J' box1 y0.Stacks (y0.Stacks.length : Int) x) n ((0 : Int)) else some ((-1 : Int), (-1 : Int), false))
def impl_Yard_lift (n : Nat) (y0 : SYard) (from1 : Int) (to2 : Int) : Option (List (List Int)) :=
  ix from1 y0.Stacks.length (chk (decide (from1.toNat < y0.Stacks.length)) (chk (decide (from1.toNat < y0.Stacks.length)) ((bd (w64 (((y0.Stacks.getD from1.toNat []).length : Int) - (1 : Int))) fun (v1 : Int) => ix to2 y0.Stacks.length (chk (decide (to2.toNat < y0.Stacks.length)) (chk (decide (to2.toNat < y0.Stacks.length)) ((impl_own_int_f104 n (y0.Stacks.getD to2.toNat [])).bind fun r2 => chk (decide (from1.toNat < y0.Stacks.length)) (ix v1 ((y0.Stacks.getD from1.toNat []).length) (chk (decide (from1.toNat < y0.Stacks.length)) (chk (decide (v1.toNat < (y0.Stacks.getD from1.toNat []).length)) ((bd (r2 ++ [((y0.Stacks.getD from1.toNat []).getD v1.toNat (0 : Int))]) fun (l3 : List Int) => chk (decide (l3.length * 8 ≤ 140737488355328)) (ix to2 y0.Stacks.length (chk (decide (to2.toNat < y0.Stacks.length)) ((bif (decide (from1.toNat = to2.toNat)) then none else chk (decide (from1.toNat < (y0.Stacks.set to2.toNat l3).length)) (chk (decide ((0 : Int) ≤ v1)) (chk (decide (v1 ≤ (((y0.Stacks.set to2.toNat l3).getD from1.toNat []).length : Int))) ((bif (decide (from1.toNat = to2.toNat)) then none else chk (decide (from1.toNat < (y0.Stacks.set to2.toNat l3).length)) (chk (decide ((0 + (v1.toNat - 0)) ≤ ((y0.Stacks.set to2.toNat l3).getD from1.toNat []).length)) ((impl_own_int_f104 n ((((y0.Stacks.set to2.toNat l3).getD from1.toNat []).drop 0).take (v1.toNat - 0))).bind fun r4 => ix from1 ((y0.Stacks.set to2.toNat l3).length) (chk (decide (from1.toNat < (y0.Stacks.set to2.toNat l3).length)) ((bd ((y0.Stacks.set to2.toNat l3).set from1.toNat r4) fun (l5 : List (List Int)) => some (l5))))))))))))))))))))))))))
def impl_DoYard_k0 (n : Nat)  (op1 : SYardOp) (x25 : Int) (t26 : List (List Int)) : Option (SYard × Int × Int) :=
  ix op1.Stack t26.length (chk (decide (op1.Stack.toNat < t26.length)) (chk (decide (op1.Stack.toNat < t26.length)) (chk (decide (((t26.getD op1.Stack.toNat []) ++ [op1.Box]).length * 8 ≤ 140737488355328)) ((impl_own_int_f104 n ((t26.getD op1.Stack.toNat []) ++ [op1.Box])).bind fun r27 => ix op1.Stack t26.length (chk (decide (op1.Stack.toNat < t26.length)) (chk (decide (op1.Stack.toNat = op1.Stack.toNat)) ((bd (t26.set op1.Stack.toNat r27) fun (l28 : List (List Int)) => some ((⟨x25, l28⟩ : SYard), (0 : Int), (0 : Int))))))))))
def impl_DoYard_k1 {R : Type} (n : Nat) (kx5 : Int → Option R) (J : Int → Int → Option R) (at59 : Int) (tier60 : Int) (many61 : Int) (to72 : Int) (t63 : Int) (t73 : Int) (y65 : SYard) (t66 : Int) (c67 : List (List Int)) (was68 : Int) (c69 : List (List Int)) (x70 : Int) (c71 : List (List Int)) : Option R :=
  ix t73 c71.length (chk (decide (t73.toNat < c71.length)) ((bif (!(decide (t73 = at59))) then chk (decide (t73.toNat < c71.length)) ((bif (decide (((c71.getD t73.toNat []).length : Int) < y65.High)) then (bif (decide (to72 < (0 : Int))) then J t73 (w64 (t73 + (1 : Int))) else chk (decide (t73.toNat < c71.length)) (ix to72 c71.length (chk (decide (to72.toNat < c71.length)) (chk (decide (to72.toNat < c71.length)) ((bif (decide (((c71.getD t73.toNat []).length : Int) < ((c71.getD to72.toNat []).length : Int))) then J t73 (w64 (t73 + (1 : Int))) else J to72 (w64 (t73 + (1 : Int))))))))) else J to72 (w64 (t73 + (1 : Int))))) else J to72 (w64 (t73 + (1 : Int))))))
def impl_DoYard_L29 {R : Type} (n : Nat) (kx5 : Int → Option R) (J : Int → Int → Option R) (at59 : Int) (tier60 : Int) (many61 : Int) (to62 : Int) (t63 : Int) (t64 : Int) (y65 : SYard) (t66 : Int) (c67 : List (List Int)) (was68 : Int) (c69 : List (List Int)) (x70 : Int) (c71 : List (List Int)) : Option R :=
  (bif (decide (t64 < t63)) then impl_DoYard_k1 n kx5 J at59 tier60 many61 to62 t63 t64 y65 t66 c67 was68 c69 x70 c71 else kx5 to62)
def impl_DoYard_k2 {R : Type} (n : Nat) (kx3 : Int → List (List Int) → Option R) (kxr : Int → Int → Option R) (J : Int → List (List Int) → Option R) (at46 : Int) (tier47 : Int) (many57 : Int) (y49 : SYard) (t50 : Int) (c51 : List (List Int)) (was52 : Int) (c53 : List (List Int)) (x54 : Int) (c58 : List (List Int)) : Option R :=
  loopN (fun (x : Int × Int) J' => impl_DoYard_L29 n (fun to105 => (bif (decide (to105 < (0 : Int))) then kxr (0 : Int) (4 : Int) else (impl_Yard_lift n (⟨x54, c58⟩ : SYard) at46 to105).bind fun r114 => (bd (w64 (many57 + (1 : Int))) fun (v117 : Int) => J v117 r114))) (fun to118 t119 => J' (to118, t119)) at46 tier47 many57 x.1 (c58.length : Int) x.2 y49 t50 c51 was52 c53 x54 c58) n ((-1 : Int), (0 : Int))
def impl_DoYard_L25 {R : Type} (n : Nat) (kx3 : Int → List (List Int) → Option R) (kxr : Int → Int → Option R) (J : Int → List (List Int) → Option R) (at46 : Int) (tier47 : Int) (many48 : Int) (y49 : SYard) (t50 : Int) (c51 : List (List Int)) (was52 : Int) (c53 : List (List Int)) (x54 : Int) (c55 : List (List Int)) : Option R :=
  ix at46 c55.length (chk (decide (at46.toNat < c55.length)) (chk (decide (at46.toNat < c55.length)) ((bd (w64 (((c55.getD at46.toNat []).length : Int) - (1 : Int))) fun (v56 : Int) => (bif (decide (v56 > tier47)) then impl_DoYard_k2 n kx3 kxr J at46 tier47 many48 y49 t50 c51 was52 c53 x54 c55 else kx3 many48 c55)))))
def impl_DoYard_k3 (n : Nat)  (at40 : Int) (tier41 : Int) (y0 : SYard) (was42 : Int) (t43 : List (List Int)) (x44 : Int) (t45 : List (List Int)) : Option (SYard × Int × Int) :=
  loopN (fun (x : Int × List (List Int)) J' => impl_DoYard_L25 n (fun many120 c121 => ix at40 c121.length (chk (decide (at40.toNat < c121.length)) (chk (decide (at40.toNat < c121.length)) (chk (decide ((0 : Int) ≤ tier41)) (chk (decide (tier41 ≤ ((c121.getD at40.toNat []).length : Int))) (chk (decide (at40.toNat < c121.length)) (chk (decide ((0 + (tier41.toNat - 0)) ≤ (c121.getD at40.toNat []).length)) ((impl_own_int_f104 n (((c121.getD at40.toNat []).drop 0).take (tier41.toNat - 0))).bind fun r122 => ix at40 c121.length (chk (decide (at40.toNat < c121.length)) (some ((⟨x44, (c121.set at40.toNat r122)⟩ : SYard), many120, (0 : Int)))))))))))) (fun t123 t124 => some ((⟨was42, t43⟩ : SYard), t123, t124)) (fun many125 c126 => J' (many125, c126)) at40 tier41 x.1 y0 (0 : Int) [] was42 t43 x44 x.2) n ((0 : Int), t45)
def impl_DoYard_k4 (n : Nat)  (y0 : SYard) (op1 : SYardOp) (was21 : Int) (t22 : List (List Int)) : Option (SYard × Int × Int) :=
  (impl_Yard_own n y0).bind fun r23 => (impl_FindBox n y0 op1.Box).bind fun r24 => (bif (decide (op1.Kind = (1 : Int))) then (bif r24.2.2 then some ((⟨was21, t22⟩ : SYard), (0 : Int), (2 : Int)) else ix op1.Stack r23.Stacks.length (chk (decide (op1.Stack.toNat < r23.Stacks.length)) (chk (decide (op1.Stack.toNat < r23.Stacks.length)) ((bif (decide (((r23.Stacks.getD op1.Stack.toNat []).length : Int) = y0.High)) then some ((⟨was21, t22⟩ : SYard), (0 : Int), (4 : Int)) else impl_DoYard_k0 n  op1 r23.High r23.Stacks))))) else (bif (decide (op1.Kind = (3 : Int))) then ix op1.Box r23.Stacks.length (chk (decide (op1.Box.toNat < r23.Stacks.length)) (chk (decide (op1.Box.toNat < r23.Stacks.length)) ((bif (decide (((r23.Stacks.getD op1.Box.toNat []).length : Int) = (0 : Int))) then some ((⟨was21, t22⟩ : SYard), (0 : Int), (3 : Int)) else ix op1.Stack r23.Stacks.length (chk (decide (op1.Stack.toNat < r23.Stacks.length)) (chk (decide (op1.Stack.toNat < r23.Stacks.length)) ((bif (decide (((r23.Stacks.getD op1.Stack.toNat []).length : Int) = y0.High)) then some ((⟨was21, t22⟩ : SYard), (0 : Int), (4 : Int)) else (impl_Yard_lift n r23 op1.Box op1.Stack).bind fun r32 => some ((⟨r23.High, r32⟩ : SYard), (0 : Int), (0 : Int)))))))))) else (bif (!r24.2.2) then some ((⟨was21, t22⟩ : SYard), (0 : Int), (3 : Int)) else impl_DoYard_k3 n  r24.1 r24.2.1 y0 was21 t22 r23.High r23.Stacks)))
def impl_DoYard (n : Nat) (y0 : SYard) (op1 : SYardOp) : Option (SYard × Int × Int) :=
  (impl_Yard_own n y0).bind fun r1 => (bd (w64 ((y0.Stacks.length : Int) - (1 : Int))) fun (v2 : Int) => (impl_YardOk n y0).bind fun r3 => (bif (!r3) then some (r1, (0 : Int), (1 : Int)) else (impl_in n op1.Kind (1 : Int) (3 : Int)).bind fun r6 => (bif (!r6) then some (r1, (0 : Int), (1 : Int)) else (bif (!(decide (op1.Kind = (2 : Int)))) then (impl_in n op1.Stack (0 : Int) v2).bind fun r9 => (bif (!r9) then some (r1, (0 : Int), (1 : Int)) else (bif (decide (op1.Kind = (1 : Int))) then (impl_idRight n op1.Box).bind fun r12 => (bif (!r12) then some (r1, (0 : Int), (1 : Int)) else (bif (decide (op1.Kind = (3 : Int))) then (impl_in n op1.Box (0 : Int) v2).bind fun r15 => (bif (!r15) then some (r1, (0 : Int), (1 : Int)) else (bif (decide (op1.Box = op1.Stack)) then some (r1, (0 : Int), (1 : Int)) else impl_DoYard_k4 n  y0 op1 r1.High r1.Stacks)) else impl_DoYard_k4 n  y0 op1 r1.High r1.Stacks)) else (bif (decide (op1.Kind = (3 : Int))) then (impl_in n op1.Box (0 : Int) v2).bind fun r141 => (bif (!r141) then some (r1, (0 : Int), (1 : Int)) else (bif (decide (op1.Box = op1.Stack)) then some (r1, (0 : Int), (1 : Int)) else impl_DoYard_k4 n  y0 op1 r1.High r1.Stacks)) else impl_DoYard_k4 n  y0 op1 r1.High r1.Stacks))) else (bif (decide (op1.Kind = (1 : Int))) then (impl_idRight n op1.Box).bind fun r153 => (bif (!r153) then some (r1, (0 : Int), (1 : Int)) else (bif (decide (op1.Kind = (3 : Int))) then (impl_in n op1.Box (0 : Int) v2).bind fun r156 => (bif (!r156) then some (r1, (0 : Int), (1 : Int)) else (bif (decide (op1.Box = op1.Stack)) then some (r1, (0 : Int), (1 : Int)) else impl_DoYard_k4 n  y0 op1 r1.High r1.Stacks)) else impl_DoYard_k4 n  y0 op1 r1.High r1.Stacks)) else (bif (decide (op1.Kind = (3 : Int))) then (impl_in n op1.Box (0 : Int) v2).bind fun r168 => (bif (!r168) then some (r1, (0 : Int), (1 : Int)) else (bif (decide (op1.Box = op1.Stack)) then some (r1, (0 : Int), (1 : Int)) else impl_DoYard_k4 n  y0 op1 r1.High r1.Stacks)) else impl_DoYard_k4 n  y0 op1 r1.High r1.Stacks))))))
def impl_RunYard_k0 {R : Type} (n : Nat) (kx0 : Int → Int → List (List Int) → List Int → Option R) (J : Int → Int → Int → List (List Int) → List Int → Option R) (all13 : Int) (t5 : List SYardOp) (t6 : Int) (t14 : Int) (y15 : Int) (c16 : List (List Int)) (t10 : Int) (c11 : List (List Int)) (codes17 : List Int) : Option R :=
  ix t14 t5.length ((bd (t5.getD t14.toNat dSYardOp) fun (e18 : SYardOp) => (impl_DoYard n (⟨y15, c16⟩ : SYard) e18).bind fun r19 => chk (decide ((codes17 ++ [r19.2.2]).length * 8 ≤ 140737488355328)) (J (w64 (all13 + r19.2.1)) (w64 (t14 + (1 : Int))) r19.1.High r19.1.Stacks (codes17 ++ [r19.2.2]))))
def impl_RunYard_L7 {R : Type} (n : Nat) (kx0 : Int → Int → List (List Int) → List Int → Option R) (J : Int → Int → Int → List (List Int) → List Int → Option R) (all4 : Int) (t5 : List SYardOp) (t6 : Int) (t7 : Int) (y8 : Int) (c9 : List (List Int)) (t10 : Int) (c11 : List (List Int)) (codes12 : List Int) : Option R :=
  (bif (decide (t7 < t6)) then impl_RunYard_k0 n kx0 J all4 t5 t6 t7 y8 c9 t10 c11 codes12 else kx0 all4 y8 c9 codes12)
def impl_RunYard_k1 (n : Nat)  (ops1 : List SYardOp) (y2 : Int) (t3 : List (List Int)) : Option (SYard × List Int × Int) :=
  loopN (fun (x : Int × Int × Int × List (List Int) × List Int) J' => impl_RunYard_L7 n (fun all20 y21 c22 codes23 => (impl_own_int_f104 n codes23).bind fun r24 => some ((⟨y21, c22⟩ : SYard), r24, all20)) (fun all25 t26 y27 c28 codes29 => J' (all25, t26, y27, c28, codes29)) x.1 ops1 (ops1.length : Int) x.2.1 x.2.2.1 x.2.2.2.1 (0 : Int) [] x.2.2.2.2) n ((0 : Int), (0 : Int), y2, t3, [])
def impl_RunYard (n : Nat) (y0 : SYard) (ops1 : List SYardOp) : Option (SYard × List Int × Int) :=
  (impl_Yard_own n y0).bind fun r1 => (bif (decide ((ops1.length : Int) > (200 : Int))) then some (r1, [], (0 : Int)) else impl_RunYard_k1 n  ops1 r1.High r1.Stacks)
def laws_eqIntS_L4 {R : Type} (n : Nat) (kx0 : Option R) (kxr : Bool → Option R) (J : Int → Option R) (a1 : List Int) (b2 : List Int) (i3 : Int) : Option R :=
  (bif (decide (i3 < (a1.length : Int))) then ix i3 a1.length (ix i3 b2.length ((bif (!(decide ((a1.getD i3.toNat (0 : Int)) = (b2.getD i3.toNat (0 : Int))))) then kxr false else J (w64 (i3 + (1 : Int)))))) else kx0)
def laws_eqIntS (n : Nat) (a0 : List Int) (b1 : List Int) : Option Bool :=
  (bif (!(decide ((a0.length : Int) = (b1.length : Int)))) then some (false) else loopN (fun (x : Int) J' => laws_eqIntS_L4 n (some (true)) (fun t9 => some (t9)) J' a0 b1 x) n ((0 : Int)))
def laws_eqIntSS_L4 {R : Type} (n : Nat) (kx0 : Option R) (kxr : Bool → Option R) (J : Int → Option R) (a1 : List (List Int)) (b2 : List (List Int)) (i3 : Int) : Option R :=
  (bif (decide (i3 < (a1.length : Int))) then ix i3 a1.length (ix i3 b2.length ((laws_eqIntS n (a1.getD i3.toNat []) (b2.getD i3.toNat [])).bind fun r7 => (bif (!r7) then kxr false else J (w64 (i3 + (1 : Int)))))) else kx0)
def laws_eqIntSS (n : Nat) (a0 : List (List Int)) (b1 : List (List Int)) : Option Bool :=
  (bif (!(decide ((a0.length : Int) = (b1.length : Int)))) then some (false) else loopN (fun (x : Int) J' => laws_eqIntSS_L4 n (some (true)) (fun t11 => some (t11)) J' a0 b1 x) n ((0 : Int)))
def laws_eqYard (n : Nat) (a0 : SYard) (b1 : SYard) : Option Bool :=
  (bif (!(decide (a0.High = b1.High))) then some (false) else (laws_eqIntSS n a0.Stacks b1.Stacks).bind fun r2 => (bif (!r2) then some (false) else some (true)))
def laws_eqYardOp (n : Nat) (a0 : SYardOp) (b1 : SYardOp) : Option Bool :=
  (bif (!(decide (a0.Kind = b1.Kind))) then some (false) else (bif (!(decide (a0.Box = b1.Box))) then some (false) else (bif (!(decide (a0.Stack = b1.Stack))) then some (false) else some (true))))
def laws_eqYardOpS_L4 {R : Type} (n : Nat) (kx0 : Option R) (kxr : Bool → Option R) (J : Int → Option R) (a1 : List SYardOp) (b2 : List SYardOp) (i3 : Int) : Option R :=
  (bif (decide (i3 < (a1.length : Int))) then ix i3 a1.length ((bd (a1.getD i3.toNat dSYardOp) fun (e9 : SYardOp) => ix i3 b2.length ((bd (b2.getD i3.toNat dSYardOp) fun (e10 : SYardOp) => (laws_eqYardOp n e9 e10).bind fun r11 => (bif (!r11) then kxr false else J (w64 (i3 + (1 : Int)))))))) else kx0)
def laws_eqYardOpS (n : Nat) (a0 : List SYardOp) (b1 : List SYardOp) : Option Bool :=
  (bif (!(decide ((a0.length : Int) = (b1.length : Int)))) then some (false) else loopN (fun (x : Int) J' => laws_eqYardOpS_L4 n (some (true)) (fun t15 => some (t15)) J' a0 b1 x) n ((0 : Int)))
def laws_markIntS_L2 {R : Type} (n : Nat) (kx0 : Int → List Int → Option R) (J : Int → Int → List Int → Option R) (k1 : Int) (i2 : Int) (p3 : List Int) : Option R :=
  (bif (decide (i2 < (p3.length : Int))) then ix i2 p3.length (chk (decide (i2.toNat < p3.length)) (J (w64 (k1 + (1 : Int))) (w64 (i2 + (1 : Int))) (p3.set i2.toNat k1))) else kx0 k1 p3)
def laws_markIntS (n : Nat) (a0 : List Int) (k1 : Int) : Option (Int × List Int) :=
  loopN (fun (x : Int × Int × List Int) J' => laws_markIntS_L2 n (fun k7 p8 => some (k7, p8)) (fun k9 i10 p11 => J' (k9, i10, p11)) x.1 x.2.1 x.2.2) n (k1, (0 : Int), a0)
def laws_markIntSS_k0 {R : Type} (n : Nat) (kx0 : Int → List (List Int) → Option R) (J : Int → Int → List (List Int) → Option R) (k4 : Int) (i5 : Int) (p6 : List (List Int)) : Option R :=
  ix i5 p6.length (chk (decide (i5.toNat < p6.length)) (chk (decide (i5.toNat < p6.length)) ((laws_markIntS n (p6.getD i5.toNat []) k4).bind fun r7 => chk (decide (i5.toNat = i5.toNat)) (chk (decide (i5.toNat < p6.length)) (J r7.1 (w64 (i5 + (1 : Int))) (p6.set i5.toNat r7.2))))))
def laws_markIntSS_L2 {R : Type} (n : Nat) (kx0 : Int → List (List Int) → Option R) (J : Int → Int → List (List Int) → Option R) (k1 : Int) (i2 : Int) (p3 : List (List Int)) : Option R :=
  (bif (decide (i2 < (p3.length : Int))) then laws_markIntSS_k0 n kx0 J k1 i2 p3 else kx0 k1 p3)
def laws_markIntSS (n : Nat) (a0 : List (List Int)) (k1 : Int) : Option (Int × List (List Int)) :=
  loopN (fun (x : Int × Int × List (List Int)) J' => laws_markIntSS_L2 n (fun k8 p9 => some (k8, p9)) (fun k10 i11 p12 => J' (k10, i11, p12)) x.1 x.2.1 x.2.2) n (k1, (0 : Int), a0)
def laws_markYard (n : Nat) (a0 : SYard) (k1 : Int) : Option (Int × List (List Int)) :=
  (laws_markIntSS n a0.Stacks k1).bind fun r1 => some (r1.1, r1.2)
def laws_markYardOpS_k0 {R : Type} (n : Nat) (kx0 : Int → List SYardOp → Option R) (J : Int → Int → List SYardOp → Option R) (k4 : Int) (i5 : Int) (p6 : List SYardOp) : Option R :=
  ix i5 p6.length (chk (decide (i5.toNat < p6.length)) ((bd (p6.getD i5.toNat dSYardOp) fun (e7 : SYardOp) => (bd (p6.set i5.toNat (⟨k4, e7.Box, e7.Stack⟩ : SYardOp)) fun (l8 : List SYardOp) => ix i5 l8.length (chk (decide (i5.toNat < l8.length)) ((bd (l8.getD i5.toNat dSYardOp) fun (e9 : SYardOp) => (bd (l8.set i5.toNat (⟨e9.Kind, (w64 (k4 + (1 : Int))), e9.Stack⟩ : SYardOp)) fun (l10 : List SYardOp) => (bd (w64 ((w64 (k4 + (1 : Int))) + (1 : Int))) fun (v11 : Int) => ix i5 l10.length (chk (decide (i5.toNat < l10.length)) ((bd (l10.getD i5.toNat dSYardOp) fun (e12 : SYardOp) => (bd (l10.set i5.toNat (⟨e12.Kind, e12.Box, v11⟩ : SYardOp)) fun (l13 : List SYardOp) => J (w64 (v11 + (1 : Int))) (w64 (i5 + (1 : Int))) l13)))))))))))))
def laws_markYardOpS_L2 {R : Type} (n : Nat) (kx0 : Int → List SYardOp → Option R) (J : Int → Int → List SYardOp → Option R) (k1 : Int) (i2 : Int) (p3 : List SYardOp) : Option R :=
  (bif (decide (i2 < (p3.length : Int))) then laws_markYardOpS_k0 n kx0 J k1 i2 p3 else kx0 k1 p3)
def laws_markYardOpS (n : Nat) (a0 : List SYardOp) (k1 : Int) : Option (Int × List SYardOp) :=
  loopN (fun (x : Int × Int × List SYardOp) J' => laws_markYardOpS_L2 n (fun k14 p15 => some (k14, p15)) (fun k16 i17 p18 => J' (k16, i17, p18)) x.1 x.2.1 x.2.2) n (k1, (0 : Int), a0)
def laws_heldIntS_L2 {R : Type} (n : Nat) (kx0 : Int → Option R) (kxr : Int → Option R) (J : Int → Int → Option R) (a1 : List Int) (k2 : Int) (i3 : Int) : Option R :=
  (bif (decide (i3 < (a1.length : Int))) then ix i3 a1.length ((bif (!(decide ((a1.getD i3.toNat (0 : Int)) = k2))) then kxr (-1 : Int) else J (w64 (k2 + (1 : Int))) (w64 (i3 + (1 : Int))))) else kx0 k2)
def laws_heldIntS (n : Nat) (a0 : List Int) (k1 : Int) : Option Int :=
  loopN (fun (x : Int × Int) J' => laws_heldIntS_L2 n (fun k16 => some (k16)) (fun t17 => some (t17)) (fun k18 i19 => J' (k18, i19)) a0 x.1 x.2) n (k1, (0 : Int))
def laws_heldIntSS_L2 {R : Type} (n : Nat) (kx0 : Int → Option R) (kxr : Int → Option R) (J : Int → Int → Option R) (a1 : List (List Int)) (k2 : Int) (i3 : Int) : Option R :=
  (bif (decide (i3 < (a1.length : Int))) then ix i3 a1.length ((laws_heldIntS n (a1.getD i3.toNat []) k2).bind fun r9 => (bif (decide (r9 < (0 : Int))) then kxr (-1 : Int) else J r9 (w64 (i3 + (1 : Int))))) else kx0 k2)
def laws_heldIntSS (n : Nat) (a0 : List (List Int)) (k1 : Int) : Option Int :=
  loopN (fun (x : Int × Int) J' => laws_heldIntSS_L2 n (fun k12 => some (k12)) (fun t13 => some (t13)) (fun k14 i15 => J' (k14, i15)) a0 x.1 x.2) n (k1, (0 : Int))
def laws_heldYard (n : Nat) (a0 : SYard) (k1 : Int) : Option Int :=
  (laws_heldIntSS n a0.Stacks k1).bind fun r1 => (bif (decide (r1 < (0 : Int))) then some ((-1 : Int)) else some (r1))
def laws_FnExactRunYard_k0 (n : Nat)  (m171 : Int) (g0172 : Int) (t173 : List (List Int)) (t174 : List Int) : Option Bool :=
  (laws_heldYard n (⟨g0172, t173⟩ : SYard) (1 : Int)).bind fun r175 => (bif (decide (r175 < (0 : Int))) then some (false) else (laws_heldIntS n t174 r175).bind fun r182 => (bif (decide (r182 < (0 : Int))) then some (false) else (bif (!(decide (r182 = m171))) then some (false) else some (true))))
def laws_FnExactRunYard_k1 (n : Nat)  (aOps1 : List SYardOp) (w2145 : Int) (m146 : Int) (aY0 : SYard) (w0147 : Int) (t148 : List (List Int)) (t149 : List Int) (g0150 : Int) (t151 : List (List Int)) (t152 : List Int) : Option Bool :=
  (laws_toYard n aY0).bind fun r153 => (laws_toYardOpS n aOps1).bind fun r154 => (impl_RunYard n r153 r154).bind fun r155 => (laws_eqYard n r155.1 (⟨w0147, t148⟩ : SYard)).bind fun r156 => (bif (!r156) then some (false) else (laws_eqIntS n r155.2.1 t149).bind fun r161 => (bif (!r161) then some (false) else (bif (!(decide (r155.2.2 = w2145))) then some (false) else laws_FnExactRunYard_k0 n  m146 g0150 t151 t152)))
def laws_FnExactRunYard_k2 (n : Nat)  (aOps1 : List SYardOp) (w2116 : Int) (aY0 : SYard) (w0117 : Int) (t118 : List (List Int)) (t119 : List Int) (g0120 : Int) (t121 : List (List Int)) (t122 : List Int) : Option Bool :=
  (laws_markYard n (⟨g0120, t121⟩ : SYard) (1 : Int)).bind fun r123 => (laws_markIntS n t122 r123.1).bind fun r124 => (laws_heldYard n (⟨g0120, r123.2⟩ : SYard) (1 : Int)).bind fun r125 => (bif (decide (r125 < (0 : Int))) then some (false) else (laws_heldIntS n r124.2 r125).bind fun r197 => (bif (decide (r197 < (0 : Int))) then some (false) else (bif (!(decide (r197 = r124.1))) then some (false) else laws_FnExactRunYard_k1 n  aOps1 w2116 r124.1 aY0 w0117 t118 t119 g0120 r123.2 r124.2)))
def laws_FnExactRunYard_k3 (n : Nat)  (aOps1 : List SYardOp) (w272 : Int) (g273 : Int) (aY0 : SYard) (w074 : Int) (t75 : List (List Int)) (t76 : List Int) (x077 : Int) (t78 : List (List Int)) (t79 : List SYardOp) (g080 : Int) (t81 : List (List Int)) (t82 : List Int) : Option Bool :=
  (laws_markYard n (⟨x077, t78⟩ : SYard) (1 : Int)).bind fun r83 => (laws_markYardOpS n t79 r83.1).bind fun r84 => (bif (decide (r84.1 < (0 : Int))) then some (false) else (laws_eqYard n (⟨g080, t81⟩ : SYard) (⟨w074, t75⟩ : SYard)).bind fun r92 => (bif (!r92) then some (false) else (laws_eqIntS n t82 t76).bind fun r100 => (bif (!r100) then some (false) else (bif (!(decide (g273 = w272))) then some (false) else laws_FnExactRunYard_k2 n  aOps1 w272 aY0 w074 t75 t76 g080 t81 t82))))
def laws_FnExactRunYard_k4 (n : Nat)  (aOps1 : List SYardOp) (w246 : Int) (g247 : Int) (aY0 : SYard) (w048 : Int) (t49 : List (List Int)) (t50 : List Int) (x051 : Int) (t52 : List (List Int)) (t53 : List SYardOp) (g054 : Int) (t55 : List (List Int)) (t56 : List Int) : Option Bool :=
  (laws_toYard n aY0).bind fun r57 => (laws_eqYard n (⟨x051, t52⟩ : SYard) r57).bind fun r58 => (bif (!r58) then some (false) else (laws_toYardOpS n aOps1).bind fun r222 => (laws_eqYardOpS n t53 r222).bind fun r223 => (bif (!r223) then some (false) else laws_FnExactRunYard_k3 n  aOps1 w246 g247 aY0 w048 t49 t50 x051 t52 t53 g054 t55 t56))
def laws_FnExactRunYard_k5 (n : Nat)  (aOps1 : List SYardOp) (aY0 : SYard) : Option Bool :=
  (laws_toYard n aY0).bind fun r4 => (laws_toYardOpS n aOps1).bind fun r5 => (spec_RunYard n r4 r5).bind fun r6 => (laws_toYard n aY0).bind fun r7 => (laws_toYardOpS n aOps1).bind fun r8 => (impl_RunYard n r7 r8).bind fun r9 => (laws_eqYard n r9.1 r6.1).bind fun r10 => (bif (!r10) then some (false) else (laws_eqIntS n r9.2.1 r6.2.1).bind fun r22 => (bif (!r22) then some (false) else (bif (!(decide (r9.2.2 = r6.2.2))) then some (false) else laws_FnExactRunYard_k4 n  aOps1 r6.2.2 r9.2.2 aY0 r6.1.High r6.1.Stacks r6.2.1 r7.High r7.Stacks r8 r9.1.High r9.1.Stacks r9.2.1)))
def laws_FnExactRunYard (n : Nat) (aY0 : SYard) (aOps1 : List SYardOp) : Option Bool :=
  (laws_szYard n aY0 (1048576 : Int)).bind fun r1 => (bif (decide (r1 < (0 : Int))) then some (true) else (laws_szYardOpS n aOps1 r1).bind fun r246 => (bif (decide (r246 < (0 : Int))) then some (true) else laws_FnExactRunYard_k5 n  aOps1 aY0))
def rng (a b x : Int) : Prop := a ≤ x ∧ x ≤ b
def wfSYard (x : SYard) : Prop := rng (-9223372036854775808) 9223372036854775807 x.High ∧ (x.Stacks.length ≤ 9223372036854775807 ∧ ∀ y ∈ x.Stacks, (y.length ≤ 9223372036854775807 ∧ ∀ z ∈ y, rng (-9223372036854775808) 9223372036854775807 z))
def wfSYardOp (x : SYardOp) : Prop := rng (-9223372036854775808) 9223372036854775807 x.Kind ∧ rng (-9223372036854775808) 9223372036854775807 x.Box ∧ rng (-9223372036854775808) 9223372036854775807 x.Stack
end Go.Sm
end

section
set_option linter.unusedSimpArgs false
set_option linter.deprecated false
set_option linter.unusedSectionVars false
set_option linter.unusedVariables false
namespace Go.Sm
/-! ### Of the words that printed functions are made of -/
theorem w64_id {x : Int} (h1 : -9223372036854775808 ≤ x) (h2 : x ≤ 9223372036854775807) : w64 x = x := by
  show (let m := x % (2 ^ 64 : Int); if (true && decide ((2 : Int) ^ 63 ≤ m)) = true then m - 2 ^ 64 else m) = x
  simp only [Bool.true_and, decide_eq_true_eq]
  split <;> omega
theorem w64_rng (x : Int) : -9223372036854775808 ≤ w64 x ∧ w64 x ≤ 9223372036854775807 := by
  show -9223372036854775808 ≤ (let m := x % (2 ^ 64 : Int); if (true && decide ((2 : Int) ^ 63 ≤ m)) = true then m - 2 ^ 64 else m) ∧ (let m := x % (2 ^ 64 : Int); if (true && decide ((2 : Int) ^ 63 ≤ m)) = true then m - 2 ^ 64 else m) ≤ 9223372036854775807
  simp only [Bool.true_and, decide_eq_true_eq]
  split <;> omega
theorem chk_of {R : Type} {b : Bool} {x : Option R} (h : b = true) : chk b x = x := by rw [h]; rfl
theorem chk_true {R : Type} {x : Option R} : chk true x = x := rfl
theorem chk_dec {R : Type} {p : Prop} [Decidable p] {x : Option R} (h : p) : chk (decide p) x = x := chk_of (decide_eq_true h)
theorem ix_of {R : Type} {i : Int} {len : Nat} {x : Option R} (h0 : 0 ≤ i) (h1 : i < (len : Int)) : ix i len x = x := by
  unfold ix
  rw [decide_eq_true h0, decide_eq_true h1]
  rfl
theorem ix_nat {R : Type} {i len : Nat} {x : Option R} (h1 : i < len) : ix (i : Int) len x = x := ix_of (by omega) (by omega)
theorem bif_dec {α : Type} {p : Prop} [Decidable p] {x y : α} : (bif decide p then x else y) = if p then x else y := by
  by_cases h : p <;> simp [h]
theorem bif_not {α : Type} {b : Bool} {x y : α} : (bif !b then x else y) = bif b then y else x := by cases b <;> rfl
theorem bif_and {α : Type} {a b : Bool} {x y : α} : (bif a && b then x else y) = bif a then (bif b then x else y) else y := by cases a <;> rfl
theorem loopN_succ {X R : Type} (b : X → (X → Option R) → Option R) (m : Nat) (x : X) : loopN b (m + 1) x = b x (loopN b m) := rfl
/-- What holds of a loop: by what is left to go. -/
theorem loopN_ind {X R : Type} {b : X → (X → Option R) → Option R} (μ : X → Nat) (I : X → Prop) (Q : X → Option R → Prop)
    (h : ∀ x J, I x → (∀ y, I y → μ y < μ x → Q y (J y)) → Q x (b x J)) : ∀ n x, I x → μ x < n → Q x (loopN b n x)
  | 0, x, hi, hm => absurd hm (Nat.not_lt_zero _)
  | n + 1, x, hi, hm => h x (loopN b n) hi fun y hy hl => loopN_ind μ I Q h n y hy (by omega)
theorem getD_eq {α : Type} {l : List α} {i : Nat} {d : α} (h : i < l.length) : l.getD i d = l[i] := by
  simp [List.getD, h]
theorem w64_succ {k : Nat} (h : k < 9223372036854775807) : w64 ((k : Int) + 1) = ((k + 1 : Nat) : Int) := by
  rw [w64_id (by omega) (by omega)]
  rfl
theorem take_succ_getD {α : Type} {l : List α} {i : Nat} {d : α} (h : i < l.length) : l.take (i + 1) = l.take i ++ [l.getD i d] := by
  rw [List.take_succ, getD_eq h, List.getElem?_eq_getElem h]
  rfl
theorem drop_getD {α : Type} {l : List α} {i : Nat} {d : α} (h : i < l.length) : l.drop i = l.getD i d :: l.drop (i + 1) := by
  rw [getD_eq h]
  exact List.drop_eq_getElem_cons h
theorem bd_eq {α β : Type} (e : α) (f : α → β) : bd e f = f e := rfl
theorem bd_set {α β : Type} {Q : β → Prop} {F : List α → β} {p : List α} {i : Nat} {x : α} (h : ∀ l : List α, l.length = p.length → Q (F l)) : Q (bd (p.set i x) F) := h _ (by simp)
theorem bd_is {α β : Type} {Q : β → Prop} {F : α → β} {e : α} (h : ∀ v : α, v = e → Q (F v)) : Q (bd e F) := h _ rfl
theorem bd_val {α β : Type} {Q : β → Prop} {F : α → β} {e : α} (h : ∀ v : α, Q (F v)) : Q (bd e F) := h _
theorem chk_q {R : Type} {Q : Option R → Prop} {b : Bool} {x : Option R} (h : b = true) (hx : Q x) : Q (chk b x) := by rw [chk_of h]; exact hx
theorem ix_q {R : Type} {Q : Option R → Prop} {i : Int} {len : Nat} {x : Option R} (h0 : 0 ≤ i) (h1 : i < (len : Int)) (hx : Q x) : Q (ix i len x) := by rw [ix_of h0 h1]; exact hx
theorem bd_upd {α β : Type} {Q : β → Prop} {F : List α → β} {p : List α} {i : Nat} {x d : α} (hi : i < p.length) (h : ∀ l : List α, l.length = p.length → l.getD i d = x → (∀ j, j ≠ i → l.getD j d = p.getD j d) → Q (F l)) : Q (bd (p.set i x) F) :=
  h _ (by simp) (by simp [List.getD, hi]) (fun j hj => by simp [List.getD, List.getElem?_set, Ne.symm hj])
/-- A list written from the front. -/
theorem set_take {α : Type} {a : List α} {d : α} {m k : Nat} (h : k < a.length) (hm : m = a.length := by rfl) : (a.take k ++ (List.replicate m d).drop k).set k (a.getD k d) = a.take (k + 1) ++ (List.replicate m d).drop (k + 1) := by
  subst hm
  have h1 : (a.take k).length = k := by simp; omega
  rw [List.set_append_right _ _ (by omega), h1, Nat.sub_self, take_succ_getD h, List.append_assoc]
  congr 1
  rw [List.drop_eq_getElem_cons (by simp; exact h)]
  rfl
/-! ### Loops over 0 .. len, by what is left -/
/-- Steps k, k+1, .. told one after the other; J: what comes behind a step. -/
def forK {S R : Type} (step : Nat → S → (S → Option R) → Option R) (fin : S → Option R) : Nat → Nat → S → Option R
  | 0, _, s => fin s
  | m + 1, k, s => step k s fun s' => forK step fin m (k + 1) s'
theorem loop_forK {X S R : Type} {b : X → (X → Option R) → Option R} {enc : Nat → S → X} {len : Nat} {step : Nat → S → (S → Option R) → Option R} {fin : S → Option R} (I : Nat → S → Prop)
    (hstep : ∀ k s J J', k < len → I k s → (∀ s', I (k + 1) s' → J (enc (k + 1) s') = J' s') → b (enc k s) J = step k s J') (hfin : ∀ s J, I len s → b (enc len s) J = fin s) :
    ∀ m k s n, k + m = len → m < n → I k s → loopN b n (enc k s) = forK step fin m k s
  | 0, k, s, 0, _, h, _ => absurd h (Nat.lt_irrefl _)
  | 0, k, s, n + 1, hk, _, hi => by
    have hk : k = len := by omega
    subst hk
    exact hfin s _ hi
  | m + 1, k, s, 0, _, h, _ => absurd h (Nat.not_lt_zero _)
  | m + 1, k, s, n + 1, hk, hn, hi => by
    show b (enc k s) (loopN b n) = step k s fun s' => forK step fin m (k + 1) s'
    exact hstep k s _ _ (by omega) hi fun s' hi' => loop_forK I hstep hfin m (k + 1) s' n (by omega) (by omega) hi'
/-- The first k at which f answers; at none: z. -/
def scanK {R : Type} (f : Nat → Option (Option R)) (z : Option R) : Nat → Nat → Option R
  | 0, _ => z
  | m + 1, k => match f k with
    | some r => r
    | none => scanK f z m (k + 1)
theorem loop_scan {X R : Type} {b : X → (X → Option R) → Option R} {enc : Nat → X} {len : Nat} {f : Nat → Option (Option R)} {z : Option R}
    (hstep : ∀ k J, k < len → b (enc k) J = match f k with | some r => r | none => J (enc (k + 1))) (hfin : ∀ J, b (enc len) J = z) :
    ∀ m k n, k + m = len → m < n → loopN b n (enc k) = scanK f z m k
  | 0, k, 0, _, h => absurd h (Nat.lt_irrefl _)
  | 0, k, n + 1, hk, _ => by
    have hk : k = len := by omega
    subst hk
    exact hfin _
  | m + 1, k, 0, _, h => absurd h (Nat.not_lt_zero _)
  | m + 1, k, n + 1, hk, hn => by
    show b (enc k) (loopN b n) = _
    rw [hstep k _ (by omega)]
    unfold scanK
    cases f k with
    | some r => rfl
    | none => exact loop_scan hstep hfin m (k + 1) n (by omega) (by omega)
/-- Is p so of all of k, .. k + m - 1? -/
theorem scan_all {R : Type} {p : Nat → Bool} {r z : Option R} : ∀ m k, scanK (fun k => bif p k then none else some r) z m k = bif (List.range' k m).all p then z else r
  | 0, k => rfl
  | m + 1, k => by
    rw [scanK, List.range'_succ, List.all_cons]
    cases h : p k with
    | true => simp only [cond_true, Bool.true_and]; exact scan_all m (k + 1)
    | false => rfl
theorem scan_any {R : Type} {p : Nat → Bool} {r z : Option R} : ∀ m k, scanK (fun k => bif p k then some r else none) z m k = bif (List.range' k m).any p then r else z
  | 0, k => rfl
  | m + 1, k => by
    rw [scanK, List.range'_succ, List.any_cons]
    cases h : p k with
    | false => simp only [cond_false, Bool.false_or]; exact scan_any m (k + 1)
    | true => rfl
theorem mgetI_mputI {β : Type} (l : List (Int × β)) (n m : Int) (v : β) : mgetI (mputI l n v) m = if m = n then some v else mgetI l m := by
  unfold mgetI mputI
  induction l with
  | nil =>
    by_cases h : m = n <;> simp [h]
  | cons a l ih =>
    rw [List.findIdx?_cons]
    by_cases h : n = a.1
    · simp only [h, decide_true, if_true, Option.elim_some, List.set_cons_zero, List.find?_cons]
      by_cases h2 : m = a.1
      · simp [h2]
      · simp [h2]
    · simp only [h, decide_false, Bool.false_eq_true, if_false]
      cases hf : l.findIdx? (fun e => decide (n = e.1)) with
      | none =>
        rw [hf] at ih
        simp only [Option.elim_none] at ih
        simp only [Option.map_none, Option.elim_none, List.cons_append, List.find?_cons]
        by_cases h2 : m = a.1
        · have : m ≠ n := fun e => h (e ▸ h2)
          simp [h2]
          simp [h2] at this
          simp [this]
        · simp only [h2, decide_false]
          exact ih
      | some i =>
        rw [hf] at ih
        simp only [Option.elim_some] at ih
        simp only [Option.map_some, Option.elim_some, List.set_cons_succ, List.find?_cons]
        by_cases h2 : m = a.1
        · have : m ≠ n := fun e => h (e ▸ h2)
          simp [h2]
          simp [h2] at this
          simp [this]
        · simp only [h2, decide_false]
          exact ih
theorem mgetI_nil {β : Type} (m : Int) : mgetI ([] : List (Int × β)) m = none := rfl
/-! ### Chains of tests -/
theorem bif_and' {α : Type} {a b : Bool} {x y : α} : (bif a then (bif b then x else y) else y) = bif a && b then x else y := by cases a <;> rfl
theorem bif_or' {α : Type} {a b : Bool} {x y : α} : (bif a then y else (bif b then x else y)) = bif !a && b then x else y := by cases a <;> rfl
theorem bif_and2 {α : Type} {a b : Bool} {x y : α} : (bif a then (bif b then y else x) else y) = bif a && !b then x else y := by cases a <;> cases b <;> rfl
theorem bif_or2 {α : Type} {a b : Bool} {x y : α} : (bif a then y else (bif b then y else x)) = bif !a && !b then x else y := by cases a <;> cases b <;> rfl
theorem bif_some {α β : Type} {a : Bool} {x y : α} {f : α → Option β} : (bif a then some x else some y).bind f = bif a then f x else f y := by cases a <;> rfl
theorem bif_tf {a : Bool} : (bif a then some true else some false) = some a := by cases a <;> rfl
theorem bif_ft {a : Bool} : (bif a then some false else some true) = some (!a) := by cases a <;> rfl
theorem bif_sf {a b : Bool} : (bif a then some b else some false) = some (a && b) := by cases a <;> rfl
theorem all_range_succ {p : Nat → Bool} {k : Nat} : (List.range (k + 1)).all p = ((List.range k).all p && p k) := by
  rw [List.range_succ, List.all_append]
  simp
theorem any_range_succ {p : Nat → Bool} {k : Nat} : (List.range (k + 1)).any p = ((List.range k).any p || p k) := by
  rw [List.range_succ, List.any_append]
  simp
theorem all_range_not {p : Nat → Bool} {k m : Nat} (hk : k < m) (h : p k = false) : (List.range m).all p = false := by
  rw [Bool.eq_false_iff]
  intro e
  rw [List.all_eq_true] at e
  rw [e k (List.mem_range.2 hk)] at h
  cases h
theorem any_range_of {p : Nat → Bool} {k m : Nat} (hk : k < m) (h : p k = true) : (List.range m).any p = true := by
  rw [List.any_eq_true]
  exact ⟨k, List.mem_range.2 hk, h⟩
/-- A loop that looks at k = 0, 1, .. and leaves at the first that is not so. -/
theorem loop_all {R : Type} {b : Int → (Int → Option R) → Option R} {len : Nat} {p : Nat → Bool} {no yes : Option R} (hlen : len ≤ 9223372036854775807)
    (hstep : ∀ (k : Nat) (J : Int → Option R), k < len → (∀ j, j < k → p j = true) → b (k : Int) J = bif p k then J ((k + 1 : Nat) : Int) else no) (hfin : ∀ J, (∀ j, j < len → p j = true) → b (len : Int) J = yes) {n : Nat} (hn : len < n) :
    loopN b n (0 : Int) = bif (List.range len).all p then yes else no := by
  refine loopN_ind (fun x => len - x.toNat) (fun x => ∃ k : Nat, k ≤ len ∧ x = (k : Int) ∧ (List.range k).all p = true) (fun x r => r = bif (List.range len).all p then yes else no) ?_ n _ ⟨0, by omega, rfl, rfl⟩ (by simp; omega)
  rintro _ J ⟨k, hk, rfl, hb⟩ ih
  have hb' : ∀ j, j < k → p j = true := fun j hj => List.all_eq_true.1 hb j (List.mem_range.2 hj)
  by_cases h : k < len
  · rw [hstep k J h hb']
    cases hp : p k with
    | true => exact ih _ ⟨k + 1, h, rfl, by rw [all_range_succ, hb, hp]; rfl⟩ (by simp; omega)
    | false => rw [all_range_not h hp]; rfl
  · have : k = len := by omega
    subst this
    rw [hfin _ hb', hb]
    rfl
/-- The same, a state turned on the way (its invariant: I). -/
theorem loop_allS {S R : Type} {X : Type} {enc : Int → S → X} {b : X → (X → Option R) → Option R} {len : Nat} {p : Nat → Bool} {I : Nat → S → Prop} {no yes : Option R}
    (hstep : ∀ (k : Nat) (s : S) (J : X → Option R), k < len → I k s → (∀ j, j < k → p j = true) → ∃ s', (p k = true → I (k + 1) s') ∧ b (enc (k : Int) s) J = bif p k then J (enc ((k + 1 : Nat) : Int) s') else no) (hfin : ∀ s J, I len s → (∀ j, j < len → p j = true) → b (enc (len : Int) s) J = yes) {n : Nat} (hn : len < n) {s0 : S} (h0 : I 0 s0) :
    loopN b n (enc (0 : Int) s0) = bif (List.range len).all p then yes else no := by
  have key : ∀ m (k : Nat) (s : S) n, k + m = len → m < n → I k s → (List.range k).all p = true → loopN b n (enc (k : Int) s) = bif (List.range len).all p then yes else no := by
    intro m
    induction m with
    | zero =>
      intro k s n hk hn hi hb
      have hb' : ∀ j, j < k → p j = true := fun j hj => List.all_eq_true.1 hb j (List.mem_range.2 hj)
      have hk : k = len := by omega
      subst hk
      cases n with
      | zero => omega
      | succ n => rw [loopN_succ, hfin s _ hi hb', hb]; rfl
    | succ m ih =>
      intro k s n hk hn hi hb
      have hb' : ∀ j, j < k → p j = true := fun j hj => List.all_eq_true.1 hb j (List.mem_range.2 hj)
      cases n with
      | zero => omega
      | succ n =>
        rw [loopN_succ]
        obtain ⟨s', h1, h2⟩ := hstep k s (loopN b n) (by omega) hi hb'
        rw [h2]
        cases hp : p k with
        | true => exact ih (k + 1) s' n (by omega) (by omega) (h1 hp) (by rw [all_range_succ, hb, hp]; rfl)
        | false => rw [all_range_not (by omega : k < len) hp]; rfl
  exact key len 0 s0 n (by omega) hn h0 rfl
/-- A loop over 0 .. len that never leaves early; its state: I. -/
theorem loop_runS {S R : Type} {X : Type} {enc : Int → S → X} {b : X → (X → Option R) → Option R} {len : Nat} {I : Nat → S → Prop} {Q : Option R → Prop}
    (hstep : ∀ (k : Nat) (s : S) (J : X → Option R), k < len → I k s → ∃ s', I (k + 1) s' ∧ b (enc (k : Int) s) J = J (enc ((k + 1 : Nat) : Int) s')) (hfin : ∀ s J, I len s → Q (b (enc (len : Int) s) J)) {n : Nat} (hn : len < n) {s0 : S} (h0 : I 0 s0) :
    Q (loopN b n (enc (0 : Int) s0)) := by
  have key : ∀ m (k : Nat) (s : S) n, k + m = len → m < n → I k s → Q (loopN b n (enc (k : Int) s)) := by
    intro m
    induction m with
    | zero =>
      intro k s n hk hn hi
      have hk : k = len := by omega
      subst hk
      cases n with
      | zero => omega
      | succ n => rw [loopN_succ]; exact hfin s _ hi
    | succ m ih =>
      intro k s n hk hn hi
      cases n with
      | zero => omega
      | succ n =>
        rw [loopN_succ]
        obtain ⟨s', h1, h2⟩ := hstep k s (loopN b n) (by omega) hi
        rw [h2]
        exact ih (k + 1) s' n (by omega) (by omega) h1
  exact key len 0 s0 n (by omega) hn h0
/-! ### Sums over lists -/
def sumOf {α : Type} (f : α → Nat) : List α → Nat
  | [] => 0
  | a :: l => f a + sumOf f l
theorem sumOf_append {α : Type} (f : α → Nat) : ∀ a b : List α, sumOf f (a ++ b) = sumOf f a + sumOf f b
  | [], b => by simp [sumOf]
  | x :: a, b => by simp only [List.cons_append, sumOf, sumOf_append f a b]; omega
theorem sumOf_take_succ {α : Type} {f : α → Nat} {l : List α} {k : Nat} {d : α} (h : k < l.length) : sumOf f (l.take (k + 1)) = sumOf f (l.take k) + f (l.getD k d) := by
  rw [take_succ_getD (d := d) h, sumOf_append]
  simp [sumOf]
theorem sumOf_take_le {α : Type} (f : α → Nat) (l : List α) (k : Nat) : sumOf f (l.take k) ≤ sumOf f l := by
  have := sumOf_append f (l.take k) (l.drop k)
  rw [List.take_append_drop] at this
  omega
theorem sumOf_mem {α : Type} {f : α → Nat} {l : List α} {k : Nat} {d : α} (h : k < l.length) : f (l.getD k d) ≤ sumOf f l := by
  have h1 := sumOf_take_succ (f := f) (d := d) h
  have h2 := sumOf_take_le f l (k + 1)
  omega
theorem sumOf_lin {α : Type} {f g : α → Nat} {c s : Nat} (h : ∀ y, f y ≤ c * g y + s) : ∀ l : List α, sumOf f l ≤ c * sumOf g l + s * l.length
  | [] => by simp [sumOf]
  | a :: l => by
    have h1 := h a
    have h2 := sumOf_lin h l
    simp only [sumOf, List.length_cons, Nat.mul_add, Nat.mul_succ]
    omega
theorem sumOf_const {α : Type} (c : Nat) : ∀ l : List α, sumOf (fun _ => c) l = c * l.length
  | [] => by simp [sumOf]
  | a :: l => by simp only [sumOf, sumOf_const c l, List.length_cons, Nat.mul_succ]; omega
theorem getD_set {α : Type} {l : List α} {k : Nat} {x d : α} (h : k < l.length) : (l.set k x).getD k d = x := by simp [List.getD, h]
theorem getD_set_ne {α : Type} {l : List α} {k j : Nat} {x d : α} (h : j ≠ k) : (l.set k x).getD j d = l.getD j d := by simp [List.getD, List.getElem?_set, Ne.symm h]
theorem getD_mem {α : Type} {l : List α} {k : Nat} {d : α} (h : k < l.length) : l.getD k d ∈ l := by rw [getD_eq h]; exact List.getElem_mem h
theorem take_drop_set {α : Type} {a : List α} {d : α} {m k : Nat} {x : α} (h : k < a.length) (hm : m = a.length) (hx : x = a.getD k d) : (a.take k ++ (List.replicate m d).drop k).set k x = a.take (k + 1) ++ (List.replicate m d).drop (k + 1) := by
  subst hx
  exact set_take h hm
/-! ### The first that is so -/
def idxOf (p : Nat → Bool) (m : Nat) : Int := match (List.range m).find? p with
  | some k => (k : Int)
  | none => -1
theorem find_range_none {p : Nat → Bool} {m : Nat} (h : ∀ j, j < m → p j = false) : (List.range m).find? p = none := by
  rw [List.find?_eq_none]
  intro x hx
  rw [h x (List.mem_range.1 hx)]
  simp
theorem find_range_some {p : Nat → Bool} {m k : Nat} (hk : k < m) (hp : p k = true) (h : ∀ j, j < k → p j = false) : (List.range m).find? p = some k := by
  have e : m = k + (m - k) := by omega
  rw [e, List.range_add, List.find?_append, find_range_none h, Option.none_or]
  obtain ⟨r, hr⟩ : ∃ r, m - k = r + 1 := ⟨m - k - 1, by omega⟩
  rw [hr, List.range_succ_eq_map]
  simp [hp]
theorem idxOf_ge (p : Nat → Bool) (m : Nat) : decide (idxOf p m ≥ 0) = (List.range m).any p := by
  unfold idxOf
  cases h : (List.range m).find? p with
  | none =>
    rw [List.find?_eq_none] at h
    rw [show (List.range m).any p = false from by rw [List.any_eq_false]; exact h]
    rfl
  | some k =>
    have h1 := List.find?_some h
    rw [show (List.range m).any p = true from List.any_eq_true.2 ⟨k, List.mem_of_find?_eq_some h, h1⟩]
    exact decide_eq_true (by show (0 : Int) ≤ (k : Int); omega)
theorem idxOf_lt (p : Nat → Bool) (m : Nat) : decide (idxOf p m < 0) = !(List.range m).any p := by
  rw [← idxOf_ge]
  by_cases h : idxOf p m < 0
  · rw [decide_eq_true h, decide_eq_false (by omega)]; rfl
  · rw [decide_eq_false h, decide_eq_true (by omega)]; rfl
theorem find_range (p : Nat → Bool) : ∀ m, ((List.range m).find? p = none ∧ ∀ j, j < m → p j = false) ∨ ∃ k, (List.range m).find? p = some k ∧ k < m ∧ p k = true ∧ ∀ j, j < k → p j = false
  | 0 => .inl ⟨rfl, fun j hj => absurd hj (Nat.not_lt_zero _)⟩
  | m + 1 => by
    rcases find_range p m with ⟨h1, h2⟩ | ⟨k, h1, h2, h3, h4⟩
    · cases hp : p m with
      | true => exact .inr ⟨m, find_range_some (by omega) hp h2, by omega, hp, h2⟩
      | false =>
        have : ∀ j, j < m + 1 → p j = false := fun j hj => by
          by_cases e : j = m
          · rw [e]; exact hp
          · exact h2 j (by omega)
        exact .inl ⟨find_range_none this, this⟩
    · exact .inr ⟨k, find_range_some (by omega) h3 h4, by omega, h3, h4⟩
theorem idxOf_spec (p : Nat → Bool) (m : Nat) : (idxOf p m = -1 ∧ ∀ j, j < m → p j = false) ∨ ∃ k : Nat, idxOf p m = (k : Int) ∧ k < m ∧ p k = true ∧ ∀ j, j < k → p j = false := by
  unfold idxOf
  rcases find_range p m with ⟨h1, h2⟩ | ⟨k, h1, h2, h3, h4⟩
  · rw [h1]; exact .inl ⟨rfl, h2⟩
  · rw [h1]; exact .inr ⟨k, rfl, h2, h3, h4⟩
/-- A loop that looks at k = 0, 1, .. and leaves at the first that is so. -/
theorem loop_find {R : Type} {b : Int → (Int → Option R) → Option R} {len : Nat} {p : Nat → Bool} {yes : Nat → Option R} {no : Option R} (hlen : len ≤ 9223372036854775807)
    (hstep : ∀ (k : Nat) (J : Int → Option R), k < len → (∀ j, j < k → p j = false) → b (k : Int) J = bif p k then yes k else J ((k + 1 : Nat) : Int)) (hfin : ∀ J, (∀ j, j < len → p j = false) → b (len : Int) J = no) {n : Nat} (hn : len < n) :
    loopN b n (0 : Int) = match (List.range len).find? p with | some k => yes k | none => no := by
  refine loopN_ind (fun x => len - x.toNat) (fun x => ∃ k : Nat, k ≤ len ∧ x = (k : Int) ∧ ∀ j, j < k → p j = false) (fun x r => r = match (List.range len).find? p with | some k => yes k | none => no) ?_ n _ ⟨0, by omega, rfl, fun j hj => absurd hj (Nat.not_lt_zero _)⟩ (by simp; omega)
  rintro _ J ⟨k, hk, rfl, hb⟩ ih
  by_cases h : k < len
  · rw [hstep k J h hb]
    cases hp : p k with
    | false => exact ih _ ⟨k + 1, h, rfl, fun j hj => by
        by_cases e : j = k
        · rw [e]; exact hp
        · exact hb j (by omega)⟩ (by simp; omega)
    | true => rw [find_range_some h hp hb]; rfl
  · have : k = len := by omega
    subst this
    rw [hfin _ hb, find_range_none hb]
theorem loop_idx {b : Int → (Int → Option Int) → Option Int} {len : Nat} {p : Nat → Bool} (hlen : len ≤ 9223372036854775807)
    (hstep : ∀ (k : Nat) (J : Int → Option Int), k < len → (∀ j, j < k → p j = false) → b (k : Int) J = bif p k then some (k : Int) else J ((k + 1 : Nat) : Int)) (hfin : ∀ J, (∀ j, j < len → p j = false) → b (len : Int) J = some (-1)) {n : Nat} (hn : len < n) :
    loopN b n (0 : Int) = some (idxOf p len) := by
  rw [loop_find (yes := fun k => some (k : Int)) (no := some (-1)) hlen hstep hfin hn]
  unfold idxOf
  cases (List.range len).find? p <;> rfl
theorem byteAt_rng (s : ByteArray) (k : Nat) : 0 ≤ byteAt s k ∧ byteAt s k ≤ 255 := by
  unfold byteAt
  have := (s.data.getD k 0).toNat_lt
  omega
theorem range_any {α : Type} {l : List α} {d : α} {f : α → Bool} : (List.range l.length).any (fun k => f (l.getD k d)) = l.any f := by
  induction l with
  | nil => rfl
  | cons a l ih =>
    rw [List.length_cons, List.range_succ_eq_map, List.any_cons, List.any_map, List.any_cons, ← ih]
    rfl
theorem range_all {α : Type} {l : List α} {d : α} {f : α → Bool} : (List.range l.length).all (fun k => f (l.getD k d)) = l.all f := by
  induction l with
  | nil => rfl
  | cons a l ih =>
    rw [List.length_cons, List.range_succ_eq_map, List.all_cons, List.all_map, List.all_cons, ← ih]
    rfl
theorem all_congr_lt {p q : Nat → Bool} {m : Nat} (h : ∀ k, k < m → p k = q k) : (List.range m).all p = (List.range m).all q := by
  rw [Bool.eq_iff_iff, List.all_eq_true, List.all_eq_true]
  constructor
  · intro g x hx; rw [← h x (List.mem_range.1 hx)]; exact g x hx
  · intro g x hx; rw [h x (List.mem_range.1 hx)]; exact g x hx
theorem any_congr_lt {p q : Nat → Bool} {m : Nat} (h : ∀ k, k < m → p k = q k) : (List.range m).any p = (List.range m).any q := by
  rw [Bool.eq_iff_iff, List.any_eq_true, List.any_eq_true]
  constructor
  · rintro ⟨x, hx, g⟩; exact ⟨x, hx, by rw [← h x (List.mem_range.1 hx)]; exact g⟩
  · rintro ⟨x, hx, g⟩; exact ⟨x, hx, by rw [h x (List.mem_range.1 hx)]; exact g⟩
theorem guard_sz {w : Nat} {x : Option Bool} (h : w ≤ 1048576 → x = some true) : (bif decide ((if (w : Int) ≤ 1048576 then 1048576 - (w : Int) else -1) < 0) then some true else x) = some true := by
  by_cases c : (w : Int) ≤ 1048576
  · rw [if_pos c, decide_eq_false (by omega), cond_false]
    exact h (by omega)
  · rw [if_neg c]
    rfl
end Go.Sm
end

section
set_option linter.unusedSimpArgs false
set_option linter.deprecated false
set_option linter.unusedSectionVars false
set_option linter.unusedVariables false
set_option linter.unusedSimpArgs false
namespace Go.Sm
attribute [local irreducible] bd chk ix loopN
def w_LInt (a : List Int) : Nat := a.length
theorem laws_szIntS_ok {n : Nat} (a : List Int) {left : Int} (h : (a.length ≤ 9223372036854775807 ∧ ∀ y ∈ a, rng (-9223372036854775808) 9223372036854775807 y)) (h0 : 0 ≤ left) (h1 : left ≤ 1048576) (hn : 1000000000 < n) : laws_szIntS n a left = some (if (w_LInt a : Int) ≤ left then left - (w_LInt a : Int) else -1) := by
  have hw : w_LInt a = a.length := rfl
  unfold laws_szIntS
  rw [w64_id (by have := h.1; omega) (by omega), bd_eq, bif_dec]
  by_cases c : (a.length : Int) ≤ left
  · rw [if_neg (by omega), if_pos (by omega)]
    congr 1
  · rw [if_pos (by omega), if_neg (by omega)]
def w_LLInt (a : List (List Int)) : Nat := a.length + sumOf (fun y => w_LInt y) a
theorem laws_szIntSS_ok {n : Nat} (a : List (List Int)) {left : Int} (h : (a.length ≤ 9223372036854775807 ∧ ∀ y ∈ a, (y.length ≤ 9223372036854775807 ∧ ∀ z ∈ y, rng (-9223372036854775808) 9223372036854775807 z))) (h0 : 0 ≤ left) (h1 : left ≤ 1048576) (hn : 1000000000 < n) : laws_szIntSS n a left = some (if (w_LLInt a : Int) ≤ left then left - (w_LLInt a : Int) else -1) := by
  have hw : w_LLInt a = a.length + sumOf (fun y => w_LInt y) a := rfl
  unfold laws_szIntSS
  rw [w64_id (by have := h.1; omega) (by omega), bd_eq, bif_dec]
  by_cases c : (a.length : Int) ≤ left
  case neg => rw [if_pos (by omega), if_neg (by omega)]
  rw [if_neg (by omega)]
  refine loopN_ind (fun x => a.length - x.2.toNat) (fun x => ∃ k : Nat, k ≤ a.length ∧ x = (left - (a.length : Int) - (sumOf (fun y => w_LInt y) (a.take k) : Int), (k : Int)) ∧ (sumOf (fun y => w_LInt y) (a.take k) : Int) ≤ left - (a.length : Int))
    (fun x r => r = some (if (w_LLInt a : Int) ≤ left then left - (w_LLInt a : Int) else -1)) ?_ n _ ⟨0, by omega, by simp [sumOf], by simp [sumOf]; omega⟩ (by simp; omega)
  rintro _ J ⟨k, hk, rfl, hb⟩ ih
  unfold laws_szIntSS_L5
  by_cases h2 : k < a.length
  · have s1 := sumOf_take_succ (f := fun y => w_LInt y) (d := []) h2
    have s2 := sumOf_take_le (fun y => w_LInt y) a (k + 1)
    try simp only at s1
    simp only [Int.ofNat_lt, h2, decide_true, cond_true, ix_nat h2, Int.toNat_natCast, bd_eq]
    rw [laws_szIntS_ok (n := n) (a.getD k []) (h.2 _ (getD_mem h2)) (by omega) (by omega) hn, Option.bind_some, bif_dec]
    by_cases c2 : (w_LInt (a.getD k []) : Int) ≤ left - (a.length : Int) - (sumOf (fun y => w_LInt y) (a.take k) : Int)
    · rw [if_pos c2, if_neg (by omega), w64_succ (by omega)]
      exact ih (_, ((k + 1 : Nat) : Int)) ⟨k + 1, h2, Prod.ext (by dsimp only; omega) rfl, by omega⟩ (by simp; omega)
    · rw [if_neg c2, if_pos (by omega), if_neg (by omega)]
  · have : k = a.length := by omega
    subst this
    rw [List.take_length] at hb ⊢
    simp only [Int.lt_irrefl, decide_false, cond_false]
    rw [if_pos (by omega)]
    congr 1
    omega
def w_SYard (a : SYard) : Nat := w_LLInt a.Stacks
theorem laws_szYard_ok {n : Nat} (a : SYard) {left : Int} (h : wfSYard a) (h0 : 0 ≤ left) (h1 : left ≤ 1048576) (hn : 1000000000 < n) : laws_szYard n a left = some (if (w_SYard a : Int) ≤ left then left - (w_SYard a : Int) else -1) := by
  have hw : w_SYard a = w_LLInt a.Stacks := rfl
  unfold laws_szYard
  rw [laws_szIntSS_ok (n := n) a.Stacks h.2 (by omega) (by omega) hn, Option.bind_some, bif_dec]
  by_cases c0 : (w_LLInt a.Stacks : Int) ≤ left
  case neg => rw [if_neg c0, if_pos (by omega), if_neg (by omega)]
  rw [if_pos c0, if_neg (by omega)]
  rw [if_pos (by omega)]
  try (refine congrArg some ?_; omega)
def w_LSYardOp (a : List SYardOp) : Nat := a.length
theorem laws_szYardOpS_ok {n : Nat} (a : List SYardOp) {left : Int} (h : (a.length ≤ 9223372036854775807 ∧ ∀ y ∈ a, wfSYardOp y)) (h0 : 0 ≤ left) (h1 : left ≤ 1048576) (hn : 1000000000 < n) : laws_szYardOpS n a left = some (if (w_LSYardOp a : Int) ≤ left then left - (w_LSYardOp a : Int) else -1) := by
  have hw : w_LSYardOp a = a.length := rfl
  unfold laws_szYardOpS
  rw [w64_id (by have := h.1; omega) (by omega), bd_eq, bif_dec]
  by_cases c : (a.length : Int) ≤ left
  · rw [if_neg (by omega), if_pos (by omega)]
    congr 1
  · rw [if_pos (by omega), if_neg (by omega)]
theorem laws_toIntS_ok {n : Nat} (a : List Int) (hb : w_LInt a ≤ 100000000) (hn : 1000000000 < n) : laws_toIntS n a = some a := by
  have hw0 : a.length ≤ 100000000 := by have hw : w_LInt a = a.length := rfl; omega
  unfold laws_toIntS
  rw [chk_dec (by omega), chk_dec (by omega), chk_dec (by omega)]
  refine loopN_ind (fun x => a.length - x.1.toNat) (fun x => ∃ k : Nat, k ≤ a.length ∧ x = ((k : Int), a.take k ++ (List.replicate a.length (0 : Int)).drop k)) (fun x r => r = some a) ?_ n _ ⟨0, by omega, by simp⟩ (by simp; omega)
  rintro _ J ⟨k, hk, rfl⟩ ih
  unfold laws_toIntS_L3
  dsimp only
  have hl : (a.take k ++ (List.replicate a.length (0 : Int)).drop k).length = a.length := by simp; omega
  by_cases h : k < a.length
  · have g := ih (((k + 1 : Nat) : Int), a.take (k + 1) ++ (List.replicate a.length (0 : Int)).drop (k + 1)) ⟨k + 1, h, rfl⟩ (by simp; omega)
    have hk2 : k < (a.take k ++ (List.replicate a.length (0 : Int)).drop k).length := by omega
    simp only [Int.ofNat_lt, h, hk2, decide_true, cond_true, ix_nat h, ix_nat hk2, chk_of, bd_eq, Option.bind_some, Int.toNat_natCast, w64_succ (show k < 9223372036854775807 by omega)]
    rw [take_drop_set (d := (0 : Int)) h rfl rfl]
    exact g
  · have : k = a.length := by omega
    subst this
    simp
theorem laws_toIntSS_ok {n : Nat} (a : List (List Int)) (hb : w_LLInt a ≤ 100000000) (hn : 1000000000 < n) : laws_toIntSS n a = some a := by
  have hw0 : a.length ≤ 100000000 := by have hw : w_LLInt a = a.length + sumOf (fun y => w_LInt y) a := rfl; omega
  unfold laws_toIntSS
  rw [chk_dec (by omega), chk_dec (by omega), chk_dec (by omega)]
  refine loopN_ind (fun x => a.length - x.1.toNat) (fun x => ∃ k : Nat, k ≤ a.length ∧ x = ((k : Int), a.take k ++ (List.replicate a.length []).drop k)) (fun x r => r = some a) ?_ n _ ⟨0, by omega, by simp⟩ (by simp; omega)
  rintro _ J ⟨k, hk, rfl⟩ ih
  unfold laws_toIntSS_L3
  dsimp only
  have hl : (a.take k ++ (List.replicate a.length []).drop k).length = a.length := by simp; omega
  by_cases h : k < a.length
  · have g := ih (((k + 1 : Nat) : Int), a.take (k + 1) ++ (List.replicate a.length []).drop (k + 1)) ⟨k + 1, h, rfl⟩ (by simp; omega)
    have s1 := sumOf_mem (f := fun y => w_LInt y) (d := []) h
    have hw : w_LLInt a = a.length + sumOf (fun y => w_LInt y) a := rfl
    try simp only at s1
    have hk2 : k < (a.take k ++ (List.replicate a.length []).drop k).length := by omega
    simp only [Int.ofNat_lt, h, hk2, decide_true, cond_true, ix_nat h, ix_nat hk2, chk_of, bd_eq, Option.bind_some, Int.toNat_natCast, w64_succ (show k < 9223372036854775807 by omega), laws_toIntS_ok (n := n) (a.getD k []) (by omega) hn]
    rw [take_drop_set (d := []) h rfl rfl]
    exact g
  · have : k = a.length := by omega
    subst this
    simp
theorem laws_toYard_ok {n : Nat} (a : SYard) (h : w_SYard a ≤ 100000000) (hn : 1000000000 < n) : laws_toYard n a = some a := by
  have hw : w_SYard a = w_LLInt a.Stacks := rfl
  simp [laws_toYard, laws_toIntSS_ok (n := n) a.Stacks (by omega) hn]
theorem laws_toYardOp_ok (n : Nat) (a : SYardOp) : laws_toYardOp n a = some a := by simp [laws_toYardOp]
theorem laws_toYardOpS_ok {n : Nat} (a : List SYardOp) (hb : w_LSYardOp a ≤ 100000000) (hn : 1000000000 < n) : laws_toYardOpS n a = some a := by
  have hw0 : a.length ≤ 100000000 := by have hw : w_LSYardOp a = a.length := rfl; omega
  unfold laws_toYardOpS
  rw [chk_dec (by omega), chk_dec (by omega), chk_dec (by omega)]
  refine loopN_ind (fun x => a.length - x.1.toNat) (fun x => ∃ k : Nat, k ≤ a.length ∧ x = ((k : Int), a.take k ++ (List.replicate a.length dSYardOp).drop k)) (fun x r => r = some a) ?_ n _ ⟨0, by omega, by simp⟩ (by simp; omega)
  rintro _ J ⟨k, hk, rfl⟩ ih
  unfold laws_toYardOpS_L3
  dsimp only
  have hl : (a.take k ++ (List.replicate a.length dSYardOp).drop k).length = a.length := by simp; omega
  by_cases h : k < a.length
  · have g := ih (((k + 1 : Nat) : Int), a.take (k + 1) ++ (List.replicate a.length dSYardOp).drop (k + 1)) ⟨k + 1, h, rfl⟩ (by simp; omega)
    have hk2 : k < (a.take k ++ (List.replicate a.length dSYardOp).drop k).length := by omega
    simp only [Int.ofNat_lt, h, hk2, decide_true, cond_true, ix_nat h, ix_nat hk2, chk_of, bd_eq, Option.bind_some, Int.toNat_natCast, w64_succ (show k < 9223372036854775807 by omega), laws_toYardOp_ok]
    rw [take_drop_set (d := dSYardOp) h rfl rfl]
    exact g
  · have : k = a.length := by omega
    subst this
    simp
theorem laws_eqIntS_ok {n : Nat} (a : List Int) (hb : w_LInt a ≤ 100000000) (hn : 1000000000 < n) : laws_eqIntS n a a = some true := by
  have hw0 : a.length ≤ 100000000 := by have hw : w_LInt a = a.length := rfl; omega
  unfold laws_eqIntS
  simp only [decide_true, Bool.not_true, cond_false]
  refine loopN_ind (fun x => a.length - x.toNat) (fun x => ∃ k : Nat, k ≤ a.length ∧ x = (k : Int)) (fun x r => r = some true) ?_ n _ ⟨0, by omega, rfl⟩ (by simp; omega)
  rintro _ J ⟨k, hk, rfl⟩ ih
  unfold laws_eqIntS_L4
  by_cases h : k < a.length
  · have g := ih ((k + 1 : Nat) : Int) ⟨k + 1, h, rfl⟩ (by simp; omega)
    simp only [Int.ofNat_lt, h, decide_true, cond_true, ix_nat h, Bool.not_true, cond_false, bd_eq, Option.bind_some, beq_self_eq_true, Int.toNat_natCast, w64_succ (show k < 9223372036854775807 by omega)]
    exact g
  · simp [h]
theorem laws_eqIntSS_ok {n : Nat} (a : List (List Int)) (hb : w_LLInt a ≤ 100000000) (hn : 1000000000 < n) : laws_eqIntSS n a a = some true := by
  have hw0 : a.length ≤ 100000000 := by have hw : w_LLInt a = a.length + sumOf (fun y => w_LInt y) a := rfl; omega
  unfold laws_eqIntSS
  simp only [decide_true, Bool.not_true, cond_false]
  refine loopN_ind (fun x => a.length - x.toNat) (fun x => ∃ k : Nat, k ≤ a.length ∧ x = (k : Int)) (fun x r => r = some true) ?_ n _ ⟨0, by omega, rfl⟩ (by simp; omega)
  rintro _ J ⟨k, hk, rfl⟩ ih
  unfold laws_eqIntSS_L4
  by_cases h : k < a.length
  · have g := ih ((k + 1 : Nat) : Int) ⟨k + 1, h, rfl⟩ (by simp; omega)
    have s1 := sumOf_mem (f := fun y => w_LInt y) (d := []) h
    have hw : w_LLInt a = a.length + sumOf (fun y => w_LInt y) a := rfl
    try simp only at s1
    simp only [Int.ofNat_lt, h, decide_true, cond_true, ix_nat h, Bool.not_true, cond_false, bd_eq, Option.bind_some, beq_self_eq_true, Int.toNat_natCast, w64_succ (show k < 9223372036854775807 by omega), laws_eqIntS_ok (n := n) (a.getD k []) (by omega) hn]
    exact g
  · simp [h]
theorem laws_eqYard_ok {n : Nat} (a : SYard) (h : w_SYard a ≤ 100000000) (hn : 1000000000 < n) : laws_eqYard n a a = some true := by
  have hw : w_SYard a = w_LLInt a.Stacks := rfl
  simp [laws_eqYard, laws_eqIntSS_ok (n := n) a.Stacks (by omega) hn]
theorem laws_eqYardOp_ok (n : Nat) (a : SYardOp) : laws_eqYardOp n a a = some true := by simp [laws_eqYardOp]
theorem laws_eqYardOpS_ok {n : Nat} (a : List SYardOp) (hb : w_LSYardOp a ≤ 100000000) (hn : 1000000000 < n) : laws_eqYardOpS n a a = some true := by
  have hw0 : a.length ≤ 100000000 := by have hw : w_LSYardOp a = a.length := rfl; omega
  unfold laws_eqYardOpS
  simp only [decide_true, Bool.not_true, cond_false]
  refine loopN_ind (fun x => a.length - x.toNat) (fun x => ∃ k : Nat, k ≤ a.length ∧ x = (k : Int)) (fun x r => r = some true) ?_ n _ ⟨0, by omega, rfl⟩ (by simp; omega)
  rintro _ J ⟨k, hk, rfl⟩ ih
  unfold laws_eqYardOpS_L4
  by_cases h : k < a.length
  · have g := ih ((k + 1 : Nat) : Int) ⟨k + 1, h, rfl⟩ (by simp; omega)
    simp only [Int.ofNat_lt, h, decide_true, cond_true, ix_nat h, Bool.not_true, cond_false, bd_eq, Option.bind_some, beq_self_eq_true, Int.toNat_natCast, w64_succ (show k < 9223372036854775807 by omega), laws_eqYardOp_ok]
    exact g
  · simp [h]
def Mk_LInt (n : Nat) (k : Int) (a x : Int) : Prop := x = k
def n_LInt (a : List Int) : Nat := sumOf (fun y => 1) a
theorem n_LInt_eq (a : List Int) : n_LInt a = 1 * a.length := sumOf_const 1 a
theorem n_LInt_le (a : List Int) : n_LInt a ≤ 1 * w_LInt a := by
  have h := n_LInt_eq a
  have h2 : w_LInt a = a.length := rfl
  omega
theorem laws_markIntS_i {n : Nat} (a : List Int) (k0 : Int) (hk0 : 0 ≤ k0) (hb : k0 + ((n_LInt a : Nat) : Int) ≤ 900000000) (hw : w_LInt a ≤ 100000000) (hn : 1000000000 < n) :
    ∃ p : List Int, laws_markIntS n a k0 = some (k0 + ((n_LInt a : Nat) : Int), p) ∧ p.length = a.length ∧ ∀ i, i < a.length → Mk_LInt n (k0 + ((sumOf (fun y => 1) (a.take i) : Nat) : Int)) (a.getD i (0 : Int)) (p.getD i (0 : Int)) := by
  have hw0 : a.length ≤ 100000000 := by have hw : w_LInt a = a.length := rfl; omega
  have hnA : n_LInt a = sumOf (fun y => 1) a := rfl
  unfold laws_markIntS
  refine loopN_ind (fun x => a.length - x.2.1.toNat) (fun x => ∃ (k : Nat) (p : List Int), k ≤ a.length ∧ x = (k0 + ((sumOf (fun y => 1) (a.take k) : Nat) : Int), (k : Int), p) ∧ p.length = a.length ∧
      (∀ i, i < k → Mk_LInt n (k0 + ((sumOf (fun y => 1) (a.take i) : Nat) : Int)) (a.getD i (0 : Int)) (p.getD i (0 : Int))) ∧ ∀ i, k ≤ i → p.getD i (0 : Int) = a.getD i (0 : Int))
    (fun x r => ∃ p : List Int, r = some (k0 + ((n_LInt a : Nat) : Int), p) ∧ p.length = a.length ∧ ∀ i, i < a.length → Mk_LInt n (k0 + ((sumOf (fun y => 1) (a.take i) : Nat) : Int)) (a.getD i (0 : Int)) (p.getD i (0 : Int))) ?_ n _ ⟨0, a, by omega, by simp [sumOf], rfl, by omega, fun _ _ => rfl⟩ (by simp; omega)
  rintro _ J ⟨k, p, hk, rfl, hp, hm, hrest⟩ ih
  by_cases h : k < a.length
  · have h' : k < p.length := by omega
    have s1 := sumOf_take_succ (f := fun y => 1) (d := (0 : Int)) h
    have s2 := sumOf_take_le (fun y => 1) a (k + 1)
    try simp only at s1
    obtain ⟨kk, hkk⟩ : ∃ kk : Int, kk = k0 + ((sumOf (fun y => 1) (a.take k) : Nat) : Int) := ⟨_, rfl⟩
    have hpk := hrest k (Nat.le_refl _)
    have step : ∀ (K : Int → List Int → Option (Int × List Int)) (J : Int → Int → List Int → Option (Int × List Int)), laws_markIntS_L2 n K J kk (k : Int) p = J (kk + 1) ((k : Int) + 1) (p.set k (kk)) := fun K J => by
      unfold laws_markIntS_L2
      simp (disch := omega) only [Int.ofNat_lt, h', decide_true, cond_true, ix_nat h', List.length_set, chk_of, chk_true, bd_eq, getD_set h', List.set_set, hpk, Int.toNat_natCast, w64_id, Int.add_assoc, Int.reduceAdd, Option.bind_some]
    dsimp only
    rw [← hkk]
    refine (congrArg (fun z => ∃ q : List Int, z = some (k0 + ((n_LInt a : Nat) : Int), q) ∧ q.length = a.length ∧ ∀ i, i < a.length → Mk_LInt n (k0 + ((sumOf (fun y => 1) (a.take i) : Nat) : Int)) (a.getD i (0 : Int)) (q.getD i (0 : Int))) (step _ _)).mpr ?_
    refine ih _ ⟨k + 1, _, h, Prod.ext (by dsimp only; omega) (Prod.ext (by dsimp only; omega) rfl), by simpa using hp, fun i hi => ?_, fun i hi => ?_⟩ (by dsimp only; omega)
    · by_cases e : i = k
      · subst e
        rw [getD_set h', ← hkk]
        unfold Mk_LInt
        exact rfl
      · rw [getD_set_ne e]
        exact hm i (by omega)
    · rw [getD_set_ne (by omega)]
      exact hrest i (by omega)
  · have : k = a.length := by omega
    subst this
    unfold laws_markIntS_L2
    simp only [hp, Int.lt_irrefl, decide_false, cond_false]
    rw [List.take_length]
    exact ⟨p, rfl, hp, hm⟩
theorem laws_heldIntS_i {n : Nat} (a p : List Int) (hp : p.length = a.length) (k0 : Int) (hk0 : 0 ≤ k0) (hb : k0 + ((n_LInt a : Nat) : Int) ≤ 900000000) (hw : w_LInt a ≤ 100000000) (hn : 1000000000 < n)
    (hm : ∀ i, i < a.length → Mk_LInt n (k0 + ((sumOf (fun y => 1) (a.take i) : Nat) : Int)) (a.getD i (0 : Int)) (p.getD i (0 : Int))) : laws_heldIntS n p k0 = some (k0 + ((n_LInt a : Nat) : Int)) := by
  have hw0 : a.length ≤ 100000000 := by have hw : w_LInt a = a.length := rfl; omega
  have hnA : n_LInt a = sumOf (fun y => 1) a := rfl
  unfold laws_heldIntS
  refine loopN_ind (fun x => a.length - x.2.toNat) (fun x => ∃ (k : Nat), k ≤ a.length ∧ x = (k0 + ((sumOf (fun y => 1) (a.take k) : Nat) : Int), (k : Int)))
    (fun x r => r = some (k0 + ((n_LInt a : Nat) : Int))) ?_ n _ ⟨0, by omega, by simp [sumOf]⟩ (by simp; omega)
  rintro _ J ⟨k, hk, rfl⟩ ih
  by_cases h : k < a.length
  · have h' : k < p.length := by omega
    have s1 := sumOf_take_succ (f := fun y => 1) (d := (0 : Int)) h
    have s2 := sumOf_take_le (fun y => 1) a (k + 1)
    try simp only at s1
    have hmk := hm k h
    unfold Mk_LInt at hmk
    obtain ⟨kk, hkk⟩ : ∃ kk : Int, kk = k0 + ((sumOf (fun y => 1) (a.take k) : Nat) : Int) := ⟨_, rfl⟩
    rw [← hkk] at hmk
    try simp (disch := omega) only [Int.add_assoc, Int.reduceAdd] at hmk
    have e0 := hmk
    have step : ∀ (K K2 : Int → Option Int) (J : Int → Int → Option Int), laws_heldIntS_L2 n K K2 J p kk (k : Int) = J (kk + 1) ((k : Int) + 1) := fun K K2 J => by
      unfold laws_heldIntS_L2
      simp (disch := omega) only [Int.ofNat_lt, h', decide_true, cond_true, ix_nat h', bd_eq, Int.toNat_natCast, w64_id, Int.add_assoc, Int.reduceAdd, Option.bind_some, Bool.not_true, cond_false, beq_self_eq_true, decide_eq_false_iff_not, Int.not_lt, bif_dec, if_neg, e0]
    dsimp only
    rw [← hkk]
    refine (step _ _ _).trans ?_
    exact ih (_, _) ⟨k + 1, h, Prod.ext (by dsimp only; omega) (by dsimp only; omega)⟩ (by dsimp only; omega)
  · have : k = a.length := by omega
    subst this
    unfold laws_heldIntS_L2
    simp only [hp, Int.lt_irrefl, decide_false, cond_false]
    rw [List.take_length]
    rfl
theorem laws_markIntS_ok {n : Nat} (a : List Int) (k0 : Int) (hk0 : 0 ≤ k0) (hb : k0 + ((n_LInt a : Nat) : Int) ≤ 900000000) (hw : w_LInt a ≤ 100000000) (hn : 1000000000 < n) : ∃ p : List Int, laws_markIntS n a k0 = some (k0 + ((n_LInt a : Nat) : Int), p) ∧ laws_heldIntS n p k0 = some (k0 + ((n_LInt a : Nat) : Int)) := by
  obtain ⟨p, h1, h2, h3⟩ := laws_markIntS_i (n := n) a k0 hk0 hb hw hn
  exact ⟨p, h1, laws_heldIntS_i a p h2 k0 hk0 hb hw hn h3⟩
def Mk_LLInt (n : Nat) (k : Int) (a x : List Int) : Prop := laws_heldIntS n x (k) = some (k + ((n_LInt a : Nat) : Int))
def n_LLInt (a : List (List Int)) : Nat := sumOf (fun y => n_LInt y) a
theorem n_LLInt_le (a : List (List Int)) : n_LLInt a ≤ 1 * w_LLInt a := by
  have h := sumOf_lin (f := fun y : List Int => n_LInt y) (g := fun y : List Int => w_LInt y) (c := 1) (s := 0) (fun y => by have q0 := n_LInt_le y; show n_LInt y ≤ 1 * (w_LInt y) + 0; omega) a
  have h1 : n_LLInt a = sumOf (fun y : List Int => n_LInt y) a := rfl
  have h2 : w_LLInt a = a.length + sumOf (fun y : List Int => w_LInt y) a := rfl
  omega
theorem laws_markIntSS_i {n : Nat} (a : List (List Int)) (k0 : Int) (hk0 : 0 ≤ k0) (hb : k0 + ((n_LLInt a : Nat) : Int) ≤ 900000000) (hw : w_LLInt a ≤ 100000000) (hn : 1000000000 < n) :
    ∃ p : List (List Int), laws_markIntSS n a k0 = some (k0 + ((n_LLInt a : Nat) : Int), p) ∧ p.length = a.length ∧ ∀ i, i < a.length → Mk_LLInt n (k0 + ((sumOf (fun y => n_LInt y) (a.take i) : Nat) : Int)) (a.getD i []) (p.getD i []) := by
  have hw0 : a.length ≤ 100000000 := by have hw : w_LLInt a = a.length + sumOf (fun y => w_LInt y) a := rfl; omega
  have hnA : n_LLInt a = sumOf (fun y => n_LInt y) a := rfl
  unfold laws_markIntSS
  refine loopN_ind (fun x => a.length - x.2.1.toNat) (fun x => ∃ (k : Nat) (p : List (List Int)), k ≤ a.length ∧ x = (k0 + ((sumOf (fun y => n_LInt y) (a.take k) : Nat) : Int), (k : Int), p) ∧ p.length = a.length ∧
      (∀ i, i < k → Mk_LLInt n (k0 + ((sumOf (fun y => n_LInt y) (a.take i) : Nat) : Int)) (a.getD i []) (p.getD i [])) ∧ ∀ i, k ≤ i → p.getD i [] = a.getD i [])
    (fun x r => ∃ p : List (List Int), r = some (k0 + ((n_LLInt a : Nat) : Int), p) ∧ p.length = a.length ∧ ∀ i, i < a.length → Mk_LLInt n (k0 + ((sumOf (fun y => n_LInt y) (a.take i) : Nat) : Int)) (a.getD i []) (p.getD i [])) ?_ n _ ⟨0, a, by omega, by simp [sumOf], rfl, by omega, fun _ _ => rfl⟩ (by simp; omega)
  rintro _ J ⟨k, p, hk, rfl, hp, hm, hrest⟩ ih
  by_cases h : k < a.length
  · have h' : k < p.length := by omega
    have s1 := sumOf_take_succ (f := fun y => n_LInt y) (d := []) h
    have s2 := sumOf_take_le (fun y => n_LInt y) a (k + 1)
    try simp only at s1
    obtain ⟨kk, hkk⟩ : ∃ kk : Int, kk = k0 + ((sumOf (fun y => n_LInt y) (a.take k) : Nat) : Int) := ⟨_, rfl⟩
    have hpk := hrest k (Nat.le_refl _)
    have s3 := sumOf_mem (f := fun y => w_LInt y) (d := []) h
    have hwx : w_LLInt a = a.length + sumOf (fun y => w_LInt y) a := rfl
    try simp only at s3

    obtain ⟨t0, ht0, hh0⟩ := laws_markIntS_ok (n := n) (a.getD k []) (kk) (by omega) (by omega) (by omega) hn
    have step : ∀ (K : Int → List (List Int) → Option (Int × List (List Int))) (J : Int → Int → List (List Int) → Option (Int × List (List Int))), laws_markIntSS_L2 n K J kk (k : Int) p = J (kk + ((n_LInt (a.getD k []) : Nat) : Int)) ((k : Int) + 1) (p.set k (t0)) := fun K J => by
      unfold laws_markIntSS_L2
      simp (disch := omega) only [laws_markIntSS_k0, Int.ofNat_lt, h', decide_true, cond_true, ix_nat h', List.length_set, chk_of, chk_true, bd_eq, getD_set h', List.set_set, hpk, Int.toNat_natCast, w64_id, Int.add_assoc, Int.reduceAdd, Option.bind_some, ht0]
    dsimp only
    rw [← hkk]
    refine (congrArg (fun z => ∃ q : List (List Int), z = some (k0 + ((n_LLInt a : Nat) : Int), q) ∧ q.length = a.length ∧ ∀ i, i < a.length → Mk_LLInt n (k0 + ((sumOf (fun y => n_LInt y) (a.take i) : Nat) : Int)) (a.getD i []) (q.getD i [])) (step _ _)).mpr ?_
    refine ih _ ⟨k + 1, _, h, Prod.ext (by dsimp only; omega) (Prod.ext (by dsimp only; omega) rfl), by simpa using hp, fun i hi => ?_, fun i hi => ?_⟩ (by dsimp only; omega)
    · by_cases e : i = k
      · subst e
        rw [getD_set h', ← hkk]
        unfold Mk_LLInt
        exact hh0
      · rw [getD_set_ne e]
        exact hm i (by omega)
    · rw [getD_set_ne (by omega)]
      exact hrest i (by omega)
  · have : k = a.length := by omega
    subst this
    unfold laws_markIntSS_L2
    simp only [hp, Int.lt_irrefl, decide_false, cond_false]
    rw [List.take_length]
    exact ⟨p, rfl, hp, hm⟩
theorem laws_heldIntSS_i {n : Nat} (a p : List (List Int)) (hp : p.length = a.length) (k0 : Int) (hk0 : 0 ≤ k0) (hb : k0 + ((n_LLInt a : Nat) : Int) ≤ 900000000) (hw : w_LLInt a ≤ 100000000) (hn : 1000000000 < n)
    (hm : ∀ i, i < a.length → Mk_LLInt n (k0 + ((sumOf (fun y => n_LInt y) (a.take i) : Nat) : Int)) (a.getD i []) (p.getD i [])) : laws_heldIntSS n p k0 = some (k0 + ((n_LLInt a : Nat) : Int)) := by
  have hw0 : a.length ≤ 100000000 := by have hw : w_LLInt a = a.length + sumOf (fun y => w_LInt y) a := rfl; omega
  have hnA : n_LLInt a = sumOf (fun y => n_LInt y) a := rfl
  unfold laws_heldIntSS
  refine loopN_ind (fun x => a.length - x.2.toNat) (fun x => ∃ (k : Nat), k ≤ a.length ∧ x = (k0 + ((sumOf (fun y => n_LInt y) (a.take k) : Nat) : Int), (k : Int)))
    (fun x r => r = some (k0 + ((n_LLInt a : Nat) : Int))) ?_ n _ ⟨0, by omega, by simp [sumOf]⟩ (by simp; omega)
  rintro _ J ⟨k, hk, rfl⟩ ih
  by_cases h : k < a.length
  · have h' : k < p.length := by omega
    have s1 := sumOf_take_succ (f := fun y => n_LInt y) (d := []) h
    have s2 := sumOf_take_le (fun y => n_LInt y) a (k + 1)
    try simp only at s1
    have hmk := hm k h
    unfold Mk_LLInt at hmk
    obtain ⟨kk, hkk⟩ : ∃ kk : Int, kk = k0 + ((sumOf (fun y => n_LInt y) (a.take k) : Nat) : Int) := ⟨_, rfl⟩
    rw [← hkk] at hmk
    try simp (disch := omega) only [Int.add_assoc, Int.reduceAdd] at hmk
    have e0 := hmk
    have step : ∀ (K K2 : Int → Option Int) (J : Int → Int → Option Int), laws_heldIntSS_L2 n K K2 J p kk (k : Int) = J (kk + ((n_LInt (a.getD k []) : Nat) : Int)) ((k : Int) + 1) := fun K K2 J => by
      unfold laws_heldIntSS_L2
      simp (disch := omega) only [Int.ofNat_lt, h', decide_true, cond_true, ix_nat h', bd_eq, Int.toNat_natCast, w64_id, Int.add_assoc, Int.reduceAdd, Option.bind_some, Bool.not_true, cond_false, beq_self_eq_true, decide_eq_false_iff_not, Int.not_lt, bif_dec, if_neg, e0]
    dsimp only
    rw [← hkk]
    refine (step _ _ _).trans ?_
    exact ih (_, _) ⟨k + 1, h, Prod.ext (by dsimp only; omega) (by dsimp only; omega)⟩ (by dsimp only; omega)
  · have : k = a.length := by omega
    subst this
    unfold laws_heldIntSS_L2
    simp only [hp, Int.lt_irrefl, decide_false, cond_false]
    rw [List.take_length]
    rfl
theorem laws_markIntSS_ok {n : Nat} (a : List (List Int)) (k0 : Int) (hk0 : 0 ≤ k0) (hb : k0 + ((n_LLInt a : Nat) : Int) ≤ 900000000) (hw : w_LLInt a ≤ 100000000) (hn : 1000000000 < n) : ∃ p : List (List Int), laws_markIntSS n a k0 = some (k0 + ((n_LLInt a : Nat) : Int), p) ∧ laws_heldIntSS n p k0 = some (k0 + ((n_LLInt a : Nat) : Int)) := by
  obtain ⟨p, h1, h2, h3⟩ := laws_markIntSS_i (n := n) a k0 hk0 hb hw hn
  exact ⟨p, h1, laws_heldIntSS_i a p h2 k0 hk0 hb hw hn h3⟩
theorem laws_markYard_ok {n : Nat} (a : SYard) (k0 : Int) (hk0 : 0 ≤ k0) (hb : k0 + ((n_LLInt a.Stacks : Nat) : Int) ≤ 900000000) (hw : w_SYard a ≤ 100000000) (hn : 1000000000 < n) : ∃ w0, laws_markYard n a k0 = some (k0 + ((n_LLInt a.Stacks : Nat) : Int), w0) ∧ ∀ b : SYard, b.Stacks = w0 → laws_heldYard n b k0 = some (k0 + ((n_LLInt a.Stacks : Nat) : Int)) := by
  have hww : w_SYard a = w_LLInt a.Stacks := rfl
  obtain ⟨w0, x0, y0⟩ := laws_markIntSS_ok (n := n) a.Stacks (k0) (by omega) (by omega) (by omega) hn
  refine ⟨w0, ?_, fun b g0 => ?_⟩
  · unfold laws_markYard
    simp only [x0, Option.bind_some]
    first | done | (congr 2; omega)
  · unfold laws_heldYard
    rw [g0, y0, Option.bind_some, bif_dec, if_neg (by omega)]
    first | done | (congr 1; omega)
def Mk_LSYardOp (n : Nat) (k : Int) (a x : SYardOp) : Prop := x.Kind = k ∧ x.Box = k + 1 ∧ x.Stack = k + 2
def n_LSYardOp (a : List SYardOp) : Nat := sumOf (fun y => 3) a
theorem n_LSYardOp_eq (a : List SYardOp) : n_LSYardOp a = 3 * a.length := sumOf_const 3 a
theorem n_LSYardOp_le (a : List SYardOp) : n_LSYardOp a ≤ 3 * w_LSYardOp a := by
  have h := n_LSYardOp_eq a
  have h2 : w_LSYardOp a = a.length := rfl
  omega
theorem laws_markYardOpS_i {n : Nat} (a : List SYardOp) (k0 : Int) (hk0 : 0 ≤ k0) (hb : k0 + ((n_LSYardOp a : Nat) : Int) ≤ 900000000) (hw : w_LSYardOp a ≤ 100000000) (hn : 1000000000 < n) :
    ∃ p : List SYardOp, laws_markYardOpS n a k0 = some (k0 + ((n_LSYardOp a : Nat) : Int), p) ∧ p.length = a.length ∧ ∀ i, i < a.length → Mk_LSYardOp n (k0 + ((sumOf (fun y => 3) (a.take i) : Nat) : Int)) (a.getD i dSYardOp) (p.getD i dSYardOp) := by
  have hw0 : a.length ≤ 100000000 := by have hw : w_LSYardOp a = a.length := rfl; omega
  have hnA : n_LSYardOp a = sumOf (fun y => 3) a := rfl
  unfold laws_markYardOpS
  refine loopN_ind (fun x => a.length - x.2.1.toNat) (fun x => ∃ (k : Nat) (p : List SYardOp), k ≤ a.length ∧ x = (k0 + ((sumOf (fun y => 3) (a.take k) : Nat) : Int), (k : Int), p) ∧ p.length = a.length ∧
      (∀ i, i < k → Mk_LSYardOp n (k0 + ((sumOf (fun y => 3) (a.take i) : Nat) : Int)) (a.getD i dSYardOp) (p.getD i dSYardOp)) ∧ ∀ i, k ≤ i → p.getD i dSYardOp = a.getD i dSYardOp)
    (fun x r => ∃ p : List SYardOp, r = some (k0 + ((n_LSYardOp a : Nat) : Int), p) ∧ p.length = a.length ∧ ∀ i, i < a.length → Mk_LSYardOp n (k0 + ((sumOf (fun y => 3) (a.take i) : Nat) : Int)) (a.getD i dSYardOp) (p.getD i dSYardOp)) ?_ n _ ⟨0, a, by omega, by simp [sumOf], rfl, by omega, fun _ _ => rfl⟩ (by simp; omega)
  rintro _ J ⟨k, p, hk, rfl, hp, hm, hrest⟩ ih
  by_cases h : k < a.length
  · have h' : k < p.length := by omega
    have s1 := sumOf_take_succ (f := fun y => 3) (d := dSYardOp) h
    have s2 := sumOf_take_le (fun y => 3) a (k + 1)
    try simp only at s1
    obtain ⟨kk, hkk⟩ : ∃ kk : Int, kk = k0 + ((sumOf (fun y => 3) (a.take k) : Nat) : Int) := ⟨_, rfl⟩
    have hpk := hrest k (Nat.le_refl _)
    have step : ∀ (K : Int → List SYardOp → Option (Int × List SYardOp)) (J : Int → Int → List SYardOp → Option (Int × List SYardOp)), laws_markYardOpS_L2 n K J kk (k : Int) p = J (kk + 3) ((k : Int) + 1) (p.set k (⟨(kk), (kk + 1), (kk + 2)⟩ : SYardOp)) := fun K J => by
      unfold laws_markYardOpS_L2
      simp (disch := omega) only [laws_markYardOpS_k0, Int.ofNat_lt, h', decide_true, cond_true, ix_nat h', List.length_set, chk_of, chk_true, bd_eq, getD_set h', List.set_set, hpk, Int.toNat_natCast, w64_id, Int.add_assoc, Int.reduceAdd, Option.bind_some]
    dsimp only
    rw [← hkk]
    refine (congrArg (fun z => ∃ q : List SYardOp, z = some (k0 + ((n_LSYardOp a : Nat) : Int), q) ∧ q.length = a.length ∧ ∀ i, i < a.length → Mk_LSYardOp n (k0 + ((sumOf (fun y => 3) (a.take i) : Nat) : Int)) (a.getD i dSYardOp) (q.getD i dSYardOp)) (step _ _)).mpr ?_
    refine ih _ ⟨k + 1, _, h, Prod.ext (by dsimp only; omega) (Prod.ext (by dsimp only; omega) rfl), by simpa using hp, fun i hi => ?_, fun i hi => ?_⟩ (by dsimp only; omega)
    · by_cases e : i = k
      · subst e
        rw [getD_set h', ← hkk]
        unfold Mk_LSYardOp
        exact ⟨rfl, rfl, rfl⟩
      · rw [getD_set_ne e]
        exact hm i (by omega)
    · rw [getD_set_ne (by omega)]
      exact hrest i (by omega)
  · have : k = a.length := by omega
    subst this
    unfold laws_markYardOpS_L2
    simp only [hp, Int.lt_irrefl, decide_false, cond_false]
    rw [List.take_length]
    exact ⟨p, rfl, hp, hm⟩
theorem laws_markYardOpS_ok {n : Nat} (a : List SYardOp) (k0 : Int) (hk0 : 0 ≤ k0) (hb : k0 + ((n_LSYardOp a : Nat) : Int) ≤ 900000000) (hw : w_LSYardOp a ≤ 100000000) (hn : 1000000000 < n) : ∃ p : List SYardOp, laws_markYardOpS n a k0 = some (k0 + ((n_LSYardOp a : Nat) : Int), p) := by
  obtain ⟨p, h1, h2, h3⟩ := laws_markYardOpS_i (n := n) a k0 hk0 hb hw hn
  exact ⟨p, h1⟩
end Go.Sm
end

section
set_option linter.unusedSimpArgs false
set_option linter.deprecated false
set_option linter.unusedSectionVars false
set_option linter.unusedVariables false
set_option linter.unusedSimpArgs false
namespace Go.Sm
attribute [local irreducible] bd chk ix loopN
theorem in_spec (n : Nat) (x a b : Int) : spec_l1In n x a b = some (decide (a ≤ x ∧ x ≤ b)) := by
  unfold spec_l1In
  by_cases h0 : a ≤ x <;> by_cases h1 : x ≤ b <;> simp [h0, h1]
theorem in_impl (n : Nat) (x a b : Int) : impl_in n x a b = some (decide (a ≤ x ∧ x ≤ b)) := by
  unfold impl_in
  by_cases h0 : a ≤ x <;> by_cases h1 : x ≤ b <;> simp [h0, h1]
/-! ### Names -/
def charOk (c : Int) : Bool := decide (97 ≤ c ∧ c ≤ 122) || (decide (65 ≤ c ∧ c ≤ 90) || (decide (48 ≤ c ∧ c ≤ 57) || decide (c = 45)))
def nameB (s : ByteArray) : Bool := decide (1 ≤ (s.size : Int) ∧ (s.size : Int) ≤ 20) && (List.range s.size).all fun k => charOk (byteAt s k)
abbrev stk (y : SYard) (s : Nat) : List Int := y.Stacks.getD s []
def before (y : SYard) (s t : Nat) : List Int := (y.Stacks.take s).flatten ++ (stk y s).take t
theorem before_zero (y : SYard) (s : Nat) : before y s 0 = (y.Stacks.take s).flatten := by simp [before]
theorem take_flat (y : SYard) {s : Nat} (h : s < y.Stacks.length) : (y.Stacks.take (s + 1)).flatten = (y.Stacks.take s).flatten ++ stk y s := by
  rw [take_succ_getD (d := []) h, List.flatten_append]
  simp
theorem before_succ (y : SYard) (s : Nat) {t : Nat} (h : t < (stk y s).length) : before y s (t + 1) = before y s t ++ [(stk y s).getD t 0] := by
  unfold before
  rw [take_succ_getD (d := 0) h, List.append_assoc]
theorem before_full (y : SYard) {s : Nat} (h : s < y.Stacks.length) : before y s (stk y s).length = (y.Stacks.take (s + 1)).flatten := by
  unfold before
  rw [take_flat y h, List.take_length]
theorem nodup_snoc {l : List Int} {x : Int} : (l ++ [x]).Nodup ↔ l.Nodup ∧ x ∉ l := by
  rw [List.nodup_append]
  constructor
  · rintro ⟨h1, _, h3⟩
    exact ⟨h1, fun h => h3 x h x (by simp) rfl⟩
  · rintro ⟨h1, h2⟩
    exact ⟨h1, by simp, fun a ha b hb e => h2 (by simp at hb; rw [← hb, ← e]; exact ha)⟩
theorem nodup_inner (y : SYard) (s : Nat) : ∀ t, t ≤ (stk y s).length → ((before y s t).Nodup ↔ (y.Stacks.take s).flatten.Nodup ∧ ∀ j, j < t → (stk y s).getD j 0 ∉ before y s j)
  | 0, _ => by
    rw [before_zero]
    exact ⟨fun h => ⟨h, fun j hj => absurd hj (Nat.not_lt_zero _)⟩, fun h => h.1⟩
  | t + 1, ht => by
    rw [before_succ y s (by omega), nodup_snoc, nodup_inner y s t (by omega)]
    constructor
    · rintro ⟨⟨h1, h2⟩, h3⟩
      refine ⟨h1, fun j hj => ?_⟩
      by_cases e : j = t
      · rw [e]; exact h3
      · exact h2 j (by omega)
    · rintro ⟨h1, h2⟩
      exact ⟨⟨h1, fun j hj => h2 j (by omega)⟩, h2 t (by omega)⟩
theorem nodup_outer (y : SYard) : ∀ s, s ≤ y.Stacks.length → ((y.Stacks.take s).flatten.Nodup ↔ ∀ i, i < s → ∀ j, j < (stk y i).length → (stk y i).getD j 0 ∉ before y i j)
  | 0, _ => by simp
  | s + 1, hs => by
    rw [← before_full y (by omega), nodup_inner y s _ (Nat.le_refl _), nodup_outer y s (by omega)]
    constructor
    · rintro ⟨h1, h2⟩ i hi
      by_cases e : i = s
      · rw [e]; exact h2
      · exact h1 i (by omega)
    · intro h
      exact ⟨fun i hi => h i (by omega), h s (by omega)⟩
theorem mem_flat (y : SYard) {s t : Nat} (hs : s < y.Stacks.length) (ht : t < (stk y s).length) : (stk y s).getD t 0 ∈ y.Stacks.flatten :=
  List.mem_flatten.2 ⟨stk y s, getD_mem hs, getD_mem ht⟩
theorem flat_mem (y : SYard) {x : Int} (h : x ∈ y.Stacks.flatten) : ∃ s t, s < y.Stacks.length ∧ t < (stk y s).length ∧ (stk y s).getD t 0 = x := by
  obtain ⟨l, hl, hx⟩ := List.mem_flatten.1 h
  obtain ⟨s, hs, rfl⟩ := List.getElem_of_mem hl
  obtain ⟨t, ht, rfl⟩ := List.getElem_of_mem hx
  have e : stk y s = y.Stacks[s] := getD_eq hs
  exact ⟨s, t, hs, by rw [e]; exact ht, by rw [e, getD_eq ht]⟩
def boxId (y : SYard) (s t : Nat) : Bool := decide (1 ≤ (stk y s).getD t 0 ∧ (stk y s).getD t 0 ≤ 1000000)
def one (y : SYard) (s t : Nat) : Bool := decide (y.Stacks.flatten.count ((stk y s).getD t 0) = 1)
def fresh (y : SYard) (s t : Nat) : Bool := !decide ((stk y s).getD t 0 ∈ before y s t)
def high (y : SYard) (s : Nat) : Bool := !decide (((stk y s).length : Int) > y.High)
def yardHead (y : SYard) : Bool := decide (1 ≤ y.High ∧ y.High ≤ 6) && decide (1 ≤ (y.Stacks.length : Int) ∧ (y.Stacks.length : Int) ≤ 12)
def yardB (y : SYard) : Bool := yardHead y && ((List.range y.Stacks.length).all (high y) && (List.range y.Stacks.length).all fun s => (List.range (stk y s).length).all fun t => boxId y s t && one y s t)
def yardB' (y : SYard) : Bool := yardHead y && (List.range y.Stacks.length).all fun s => high y s && (List.range (stk y s).length).all fun t => boxId y s t && fresh y s t
theorem all_iff {p : Nat → Bool} {m : Nat} : (List.range m).all p = true ↔ ∀ k, k < m → p k = true := by
  rw [List.all_eq_true]
  exact ⟨fun h k hk => h k (List.mem_range.2 hk), fun h k hk => h k (List.mem_range.1 hk)⟩
theorem ones_iff (y : SYard) : (∀ s, s < y.Stacks.length → ∀ t, t < (stk y s).length → one y s t = true) ↔ ∀ s, s < y.Stacks.length → ∀ t, t < (stk y s).length → fresh y s t = true := by
  have h1 : (∀ s, s < y.Stacks.length → ∀ t, t < (stk y s).length → one y s t = true) ↔ y.Stacks.flatten.Nodup := by
    rw [List.nodup_iff_count]
    constructor
    · intro h a
      by_cases ha : a ∈ y.Stacks.flatten
      · obtain ⟨s, t, hs, ht, rfl⟩ := flat_mem y ha
        have := of_decide_eq_true (h s hs t ht)
        omega
      · rw [List.count_eq_zero.2 ha]; omega
    · intro h s hs t ht
      have h2 := h ((stk y s).getD t 0)
      have h3 := List.count_pos_iff.2 (mem_flat y hs ht)
      exact decide_eq_true (by omega)
  have h2 := nodup_outer y y.Stacks.length (Nat.le_refl _)
  rw [List.take_length] at h2
  rw [h1, h2]
  simp only [fresh, Bool.not_eq_true', decide_eq_false_iff_not]
theorem yard_same (y : SYard) : yardB y = yardB' y := by
  unfold yardB yardB'
  congr 1
  rw [Bool.eq_iff_iff]
  simp only [Bool.and_eq_true, all_iff]
  have h := ones_iff y
  constructor
  · rintro ⟨h1, h2⟩ s hs
    exact ⟨h1 s hs, fun t ht => ⟨(h2 s hs t ht).1, h.1 (fun s hs t ht => (h2 s hs t ht).2) s hs t ht⟩⟩
  · intro h1
    exact ⟨fun s hs => (h1 s hs).1, fun s hs t ht => ⟨((h1 s hs).2 t ht).1, h.2 (fun s hs t ht => ((h1 s hs).2 t ht).2) s hs t ht⟩⟩
structure YardSz (y : SYard) : Prop where
  len : y.Stacks.length ≤ 100000000
  each : ∀ s, s < y.Stacks.length → (stk y s).length ≤ 100000000
  all : y.Stacks.flatten.length ≤ 100000000
theorem flat_len : ∀ l : List (List Int), l.flatten.length = sumOf (fun y => w_LInt y) l
  | [] => rfl
  | a :: l => by
    rw [List.flatten_cons, List.length_append, flat_len l]
    rfl
theorem yardSz (y : SYard) (h : w_SYard y ≤ 100000000) : YardSz y := by
  have h1 : w_SYard y = y.Stacks.length + sumOf (fun z => w_LInt z) y.Stacks := rfl
  have h2 := flat_len y.Stacks
  refine ⟨by omega, fun s hs => ?_, by omega⟩
  have s1 := sumOf_mem (f := fun y => w_LInt y) (d := []) hs
  have h4 : w_LInt (y.Stacks.getD s []) = (stk y s).length := rfl
  try simp only at s1
  omega
theorem count_take_le (y : SYard) (s : Nat) (x : Int) : (y.Stacks.take s).flatten.count x ≤ y.Stacks.flatten.length := by
  have h1 : (y.Stacks.take s).flatten.count x + (y.Stacks.drop s).flatten.count x = y.Stacks.flatten.count x := by
    rw [← List.count_append, ← List.flatten_append, List.take_append_drop]
  have h2 := List.count_le_length (a := x) (l := y.Stacks.flatten)
  omega
theorem count_before_le (y : SYard) {s t : Nat} (hs : s < y.Stacks.length) (x : Int) : (before y s t).count x ≤ y.Stacks.flatten.length := by
  have h1 := count_take_le y (s + 1) x
  rw [take_flat y hs, List.count_append] at h1
  have h2 : ((stk y s).take t).count x + ((stk y s).drop t).count x = (stk y s).count x := by
    rw [← List.count_append, List.take_append_drop]
  unfold before
  rw [List.count_append]
  omega
theorem count_spec {n : Nat} (y : SYard) (x : Int) (hz : YardSz y) (hn : 1000000000 < n) : spec_l18Count n y x = some ((y.Stacks.flatten.count x : Nat) : Int) := by
  have hl := hz.len
  have ha := hz.all
  unfold spec_l18Count
  refine loop_runS (S := Int) (enc := fun k s => (s, k)) (len := y.Stacks.length) (I := fun s c => c = (((y.Stacks.take s).flatten.count x : Nat) : Int)) (Q := fun r => r = some ((y.Stacks.flatten.count x : Nat) : Int)) (fun s c J hs hi => ?_) (fun c J hi => ?_) (by omega) (s0 := 0) (by simp)
  · refine ⟨_, rfl, ?_⟩
    subst hi
    have he := hz.each s hs
    show spec_l18Count_L3 n _ _ x _ (s : Int) y = _
    unfold spec_l18Count_L3
    simp only [Int.ofNat_lt, hs, decide_true, cond_true, w64_succ (show s < 9223372036854775807 by omega)]
    refine loop_runS (S := Int) (enc := fun k s => (s, k)) (len := (stk y s).length) (I := fun t c => c = (((before y s t).count x : Nat) : Int)) (Q := fun r => r = J ((((y.Stacks.take (s + 1)).flatten.count x : Nat) : Int), ((s + 1 : Nat) : Int))) (fun t c J2 ht hi => ?_) (fun c J2 hi => ?_) (by omega) (s0 := _) (by rw [before_zero])
    · refine ⟨_, rfl, ?_⟩
      subst hi
      have hc := count_before_le y hs (t := t) x
      show spec_l18Count_L6 n _ _ x _ (s : Int) (t : Int) y = _
      unfold spec_l18Count_L6
      simp only [Int.ofNat_lt, ix_nat hs, Int.toNat_natCast, ht, decide_true, cond_true, ix_nat ht, w64_succ (show t < 9223372036854775807 by omega)]
      rw [before_succ y s ht, List.count_append]
      by_cases e : (stk y s).getD t 0 = x
      · rw [decide_eq_true e, cond_true, w64_succ (by omega), e]
        simp
      · rw [decide_eq_false e, cond_false]
        simp only [List.count_singleton]
        rw [show ((stk y s).getD t 0 == x) = false from by simpa using e]
        simp
    · subst hi
      show spec_l18Count_L6 n _ _ x _ (s : Int) ((stk y s).length : Int) y = _
      unfold spec_l18Count_L6
      simp only [ix_nat hs, Int.toNat_natCast, Int.lt_irrefl, decide_false, cond_false]
      rw [before_full y hs]
  · subst hi
    show spec_l18Count_L3 n _ _ x _ (y.Stacks.length : Int) y = _
    unfold spec_l18Count_L3
    simp only [Int.lt_irrefl, decide_false, cond_false, List.take_length]
theorem yard_spec {n : Nat} (y : SYard) (hz : YardSz y) (hn : 1000000000 < n) : spec_YardOk n y = some (yardB y) := by
  have hl := hz.len
  unfold spec_YardOk yardB yardHead
  rw [in_spec, in_spec, Option.bind_some]
  cases decide (1 ≤ y.High ∧ y.High ≤ 6) with
  | false => rfl
  | true =>
    cases decide (1 ≤ (y.Stacks.length : Int) ∧ (y.Stacks.length : Int) ≤ 12) with
    | false => rfl
    | true =>
      simp only [Bool.not_true, cond_false, Option.bind_some, Bool.true_and]
      rw [loop_all (p := high y) (len := y.Stacks.length) (no := some false) (yes := some ((List.range y.Stacks.length).all fun s => (List.range (stk y s).length).all fun t => boxId y s t && one y s t)) (by omega) (fun k J h _ => ?_) (fun J _ => ?_) (by omega)]
      · rw [bif_sf]
      · unfold spec_YardOk_L4 high
        simp only [Int.ofNat_lt, h, decide_true, cond_true, ix_nat h, Int.toNat_natCast, w64_succ (show k < 9223372036854775807 by omega), bif_not]
      · unfold spec_YardOk_L4
        simp only [Int.lt_irrefl, decide_false, cond_false]
        rw [loop_all (p := fun s => (List.range (stk y s).length).all fun t => boxId y s t && one y s t) (len := y.Stacks.length) (no := some false) (yes := some true) (by omega) (fun k J h _ => ?_) (fun J _ => ?_) (by omega)]
        · rw [bif_tf]
        · unfold spec_YardOk_L9
          have he := hz.each k h
          simp only [Int.ofNat_lt, h, decide_true, cond_true, w64_succ (show k < 9223372036854775807 by omega)]
          rw [loop_all (p := fun t => boxId y k t && one y k t) (len := (stk y k).length) (no := some false) (yes := J ((k + 1 : Nat) : Int)) (by omega) (fun t J2 ht _ => ?_) (fun J2 _ => ?_) (by omega)]
          · unfold spec_YardOk_L12 spec_YardOk_k0
            have e : decide (((y.Stacks.flatten.count ((stk y k).getD t 0) : Nat) : Int) = 1) = one y k t := by
              unfold one
              simp only [decide_eq_decide]
              omega
            simp only [Int.ofNat_lt, ix_nat h, Int.toNat_natCast, ht, decide_true, cond_true, ix_nat ht, in_spec, Option.bind_some, count_spec y _ hz hn, e, w64_succ (show t < 9223372036854775807 by omega), bif_not, bif_and', boxId]
          · unfold spec_YardOk_L12
            simp only [ix_nat h, Int.toNat_natCast, Int.lt_irrefl, decide_false, cond_false]
        · unfold spec_YardOk_L9
          simp only [Int.lt_irrefl, decide_false, cond_false]
def putAll (m : List (Int × Bool)) (l : List Int) : List (Int × Bool) := l.foldl (fun m x => mputI m x true) m
theorem putAll_get (l : List Int) : ∀ (m : List (Int × Bool)) (x : Int), (mgetI (putAll m l) x).getD false = ((mgetI m x).getD false || decide (x ∈ l)) := by
  induction l with
  | nil => intro m x; simp [putAll]
  | cons a l ih =>
    intro m x
    show (mgetI (putAll (mputI m a true) l) x).getD false = _
    rw [ih, mgetI_mputI]
    by_cases h : x = a
    · simp [h]
    · simp [h]
theorem putAll_snoc (m : List (Int × Bool)) (l : List Int) (x : Int) : putAll m (l ++ [x]) = mputI (putAll m l) x true := by
  simp [putAll]
theorem id_impl2 (n : Nat) (x : Int) : impl_idRight n x = some (decide (1 ≤ x ∧ x ≤ 1000000)) := by
  unfold impl_idRight
  rw [in_impl]; rfl
theorem yard_impl {n : Nat} (y : SYard) (hz : YardSz y) (hn : 1000000000 < n) : impl_YardOk n y = some (yardB' y) := by
  have hl := hz.len
  unfold impl_YardOk yardB' yardHead
  rw [in_impl, in_impl, Option.bind_some]
  cases decide (1 ≤ y.High ∧ y.High ≤ 6) with
  | false => rfl
  | true =>
    cases decide (1 ≤ (y.Stacks.length : Int) ∧ (y.Stacks.length : Int) ≤ 12) with
    | false => rfl
    | true =>
      simp only [Bool.not_true, cond_false, Option.bind_some, Bool.true_and]
      refine (loop_allS (S := List (Int × Bool)) (X := Int × List (Int × Bool)) (enc := fun k s => (k, s)) (len := y.Stacks.length) (p := fun s => high y s && (List.range (stk y s).length).all fun t => boxId y s t && fresh y s t)
        (I := fun s m => ∀ x, (mgetI m x).getD false = decide (x ∈ (y.Stacks.take s).flatten)) (no := some false) (yes := some true) (fun s m J h hi _ => ?_) (fun m J hi _ => ?_) (n := n) (by omega) (s0 := []) (fun q => by simp [mgetI])).trans ?_
      · refine ⟨putAll m (stk y s), fun _ x => ?_, ?_⟩
        · rw [putAll_get, hi x, take_flat y h]
          simp only [List.mem_append, Bool.decide_or]
        · have he := hz.each s h
          show impl_YardOk_L5 n _ _ _ y.Stacks _ (s : Int) y m = _
          unfold impl_YardOk_L5 impl_YardOk_k1
          simp only [Int.ofNat_lt, h, decide_true, cond_true, ix_nat h, Int.toNat_natCast, w64_succ (show s < 9223372036854775807 by omega)]
          have := loop_allS (R := Bool) (S := List (Int × Bool)) (X := Int × List (Int × Bool)) (enc := fun k s => (k, s)) (len := (stk y s).length) (p := fun t => boxId y s t && fresh y s t)
            (b := fun x J' => impl_YardOk_L10 n (fun t52 => J (((s + 1 : Nat) : Int), t52)) (fun t55 => some t55) (fun t56 t57 => J' (t56, t57)) y.Stacks (y.Stacks.length : Int) (s : Int) (y.Stacks.getD s []) ((y.Stacks.getD s []).length : Int) x.1 y x.2)
            (I := fun t m' => m' = putAll m ((stk y s).take t)) (no := some false) (yes := J (((s + 1 : Nat) : Int), putAll m (stk y s))) (fun t m' J2 ht hi2 _ => ?_) (fun m' J2 hi2 _ => ?_) (n := n) (by omega) (s0 := m) (by simp [putAll])
          · refine (congrArg (fun z => bif decide (((y.Stacks.getD s []).length : Int) > y.High) then some false else z) this).trans ?_
            unfold high
            cases decide (((stk y s).length : Int) > y.High) <;> rfl
          · refine ⟨mputI m' ((stk y s).getD t 0) true, fun _ => ?_, ?_⟩
            · rw [take_succ_getD (d := 0) ht, putAll_snoc, hi2]
            · have hf : (mgetI m' ((stk y s).getD t 0)).getD false = !fresh y s t := by
                rw [hi2, putAll_get, hi, fresh, Bool.not_not, before]
                simp only [List.mem_append, Bool.decide_or]
              show impl_YardOk_L10 n _ _ _ y.Stacks _ (s : Int) _ _ (t : Int) y m' = _
              unfold impl_YardOk_L10 impl_YardOk_k0
              simp only [Int.ofNat_lt, ht, decide_true, cond_true, ix_nat ht, Int.toNat_natCast, id_impl2, Option.bind_some, bd_eq, hf, w64_succ (show t < 9223372036854775807 by omega), bif_not, bif_and', boxId]
          · subst hi2
            show impl_YardOk_L10 n _ _ _ y.Stacks _ (s : Int) _ _ ((stk y s).length : Int) y _ = _
            unfold impl_YardOk_L10
            simp only [Int.lt_irrefl, decide_false, cond_false, List.take_length]
      · show impl_YardOk_L5 n _ _ _ y.Stacks _ (y.Stacks.length : Int) y m = _
        unfold impl_YardOk_L5
        simp only [Int.lt_irrefl, decide_false, cond_false]
      · rw [bif_tf]
end Go.Sm
end

section
set_option linter.unusedSimpArgs false
set_option linter.deprecated false
set_option linter.unusedSectionVars false
set_option linter.unusedVariables false
set_option linter.unusedSimpArgs false
namespace Go.Sm
attribute [local irreducible] bd chk ix loopN
theorem set_getD_self {α : Type} {l : List α} {k : Nat} {d : α} (h : k < l.length) : l.set k (l.getD k d) = l := by
  rw [getD_eq h]; exact List.set_getElem_self h
theorem copy_spec {n : Nat} (y : SYard) (hz : YardSz y) (hn : 1000000000 < n) : spec_l18Copy n y = some y := by
  have hl := hz.len
  unfold spec_l18Copy
  refine loop_runS (S := List (List Int)) (enc := fun k c => (k, c)) (len := y.Stacks.length) (I := fun s c => c = y.Stacks.take s) (Q := fun r => r = some y) (fun s c J hs hi => ?_) (fun c J hi => ?_) (by omega) (s0 := []) (by simp)
  · refine ⟨_, rfl, ?_⟩
    subst hi
    have he : (y.Stacks.getD s []).length ≤ 100000000 := hz.each s hs
    show spec_l18Copy_L3 n _ _ (s : Int) y _ _ _ _ = _
    unfold spec_l18Copy_L3
    have h2 : (y.Stacks.take s ++ [y.Stacks.getD s []]).length ≤ y.Stacks.length := by
      rw [← take_succ_getD (d := []) hs, List.length_take]
      omega
    simp only [Int.ofNat_lt, hs, decide_true, cond_true, ix_nat hs, Int.toNat_natCast, bd_eq, w64_succ (show s < 9223372036854775807 by omega)]
    rw [chk_dec (by omega), chk_dec (by omega), take_succ_getD (d := []) hs]
  · subst hi
    show spec_l18Copy_L3 n _ _ _ y _ _ _ _ = _
    unfold spec_l18Copy_L3
    simp only [Int.lt_irrefl, decide_false, cond_false, List.take_length]
theorem ownL_impl (n : Nat) (l : List (List Int)) (h : l.length ≤ 100000000) : impl_own_int n l = some l := by
  unfold impl_own_int
  rw [chk_dec (by omega), chk_dec (by omega), chk_dec (by omega)]
theorem ownI_impl (n : Nat) (l : List Int) (h : l.length ≤ 200000000) : impl_own_int_f104 n l = some l := by
  unfold impl_own_int_f104
  rw [chk_dec (by omega), chk_dec (by omega), chk_dec (by omega)]
theorem own_impl {n : Nat} (y : SYard) (hz : YardSz y) (hn : 1000000000 < n) : impl_Yard_own n y = some y := by
  have hl := hz.len
  unfold impl_Yard_own
  rw [ownL_impl n _ hl, Option.bind_some]
  refine loop_runS (S := List (List Int) × Nat) (enc := fun k c => (k, c)) (len := y.Stacks.length) (I := fun s c => c = (y.Stacks, s)) (Q := fun r => r = some y) (fun s c J hs hi => ?_) (fun c J hi => ?_) (by omega) (s0 := (y.Stacks, 0)) (by simp)
  · refine ⟨_, rfl, ?_⟩
    subst hi
    have he := hz.each s hs
    show impl_Yard_own_L3 n _ _ _ (s : Int) y _ _ _ = _
    unfold impl_Yard_own_L3 impl_Yard_own_k0
    simp only [Int.ofNat_lt, hs, decide_true, cond_true, ix_nat hs, Int.toNat_natCast, chk_true, Nat.lt_irrefl, decide_false, cond_false, ownI_impl n _ (Nat.le_trans he (by omega)), Option.bind_some, w64_succ (show s < 9223372036854775807 by omega), set_getD_self hs]
  · subst hi
    show impl_Yard_own_L3 n _ _ _ _ y _ _ _ = _
    unfold impl_Yard_own_L3
    simp only [Int.lt_irrefl, decide_false, cond_false, Nat.le_refl, decide_true, chk_true]
/-! ### Where a box stands -/
def inS (y : SYard) (x : Int) (s : Nat) : Nat → Bool := fun t => decide ((stk y s).getD t 0 = x)
def atS (y : SYard) (x : Int) (s : Nat) : Int := idxOf (inS y x s) (stk y s).length
def findB (y : SYard) (x : Int) : Int × Int × Bool := match (List.range y.Stacks.length).find? (fun s => decide (atS y x s ≥ 0)) with
  | some s => ((s : Int), atS y x s, true)
  | none => (-1, -1, false)
theorem findB_spec (y : SYard) (x : Int) : findB y x = (-1, -1, false) ∨ ∃ s t : Nat, findB y x = ((s : Int), (t : Int), true) ∧ s < y.Stacks.length ∧ t < (stk y s).length := by
  unfold findB
  rcases find_range (fun s => decide (atS y x s ≥ 0)) y.Stacks.length with ⟨h1, _⟩ | ⟨s, h1, h2, h3, _⟩
  · rw [h1]; exact .inl rfl
  · rw [h1]
    unfold atS at h3 ⊢
    rcases idxOf_spec (inS y x s) (stk y s).length with ⟨e, _⟩ | ⟨t, e, ht, _⟩
    · rw [e] at h3; exact absurd (of_decide_eq_true h3) (by omega)
    · exact .inr ⟨s, t, by simp only [e], h2, ht⟩
theorem findBox_spec {n : Nat} (y : SYard) (x : Int) (hz : YardSz y) (hy : yardB y = true) (hn : 1000000000 < n) : spec_FindBox n y x = some (findB y x) := by
  have hl := hz.len
  unfold spec_FindBox
  rw [loop_find (p := fun s => decide (atS y x s ≥ 0)) (yes := fun s => some ((s : Int), atS y x s, true)) (no := some (-1, -1, false)) (len := y.Stacks.length) (by omega) (fun s J hs _ => ?_) (fun J _ => ?_) (by omega)]
  · unfold findB
    cases (List.range y.Stacks.length).find? (fun s => decide (atS y x s ≥ 0)) <;> rfl
  · unfold spec_FindBox_L2
    have he := hz.each s hs
    simp only [Int.ofNat_lt, hs, decide_true, cond_true, yard_spec y hz hn, hy, Option.bind_some]
    rw [loop_find (p := inS y x s) (yes := fun t => some ((s : Int), (t : Int), true)) (no := J ((s + 1 : Nat) : Int)) (len := (stk y s).length) (by omega) (fun t J2 ht _ => ?_) (fun J2 _ => ?_) (by omega)]
    · unfold atS
      rw [idxOf_ge]
      unfold idxOf
      rcases find_range (inS y x s) (stk y s).length with ⟨h1, h2⟩ | ⟨t, h1, h2, h3, _⟩
      · rw [h1, show (List.range (stk y s).length).any (inS y x s) = false from by rw [List.any_eq_false]; intro j hj; simp [h2 j (List.mem_range.1 hj)]]
        rfl
      · rw [h1, any_range_of h2 h3]
        rfl
    · unfold spec_FindBox_L5
      simp only [Int.ofNat_lt, ix_nat hs, Int.toNat_natCast, ht, decide_true, cond_true, ix_nat ht, w64_succ (show t < 9223372036854775807 by omega)]
      rfl
    · unfold spec_FindBox_L5
      simp only [ix_nat hs, Int.toNat_natCast, Int.lt_irrefl, decide_false, cond_false, w64_succ (show s < 9223372036854775807 by omega)]
  · unfold spec_FindBox_L2
    simp only [Int.lt_irrefl, decide_false, cond_false]
theorem index_impl {n : Nat} (l : List Int) (x : Int) (hl : l.length ≤ 100000000) (hn : 1000000000 < n) : slices_Index_int_int n l x = some (idxOf (fun t => decide (l.getD t 0 = x)) l.length) := by
  unfold slices_Index_int_int
  refine loop_idx (by omega) (fun k J hk _ => ?_) (fun J _ => ?_) (by omega)
  · unfold slices_Index_int_int_L2
    simp only [Int.ofNat_lt, hk, decide_true, cond_true, ix_nat hk, Int.toNat_natCast, w64_succ (show k < 9223372036854775807 by omega), eq_comm]
  · unfold slices_Index_int_int_L2
    simp only [Int.lt_irrefl, decide_false, cond_false]
theorem findBox_impl {n : Nat} (y : SYard) (x : Int) (hz : YardSz y) (hy : yardB y = true) (hn : 1000000000 < n) : impl_FindBox n y x = some (findB y x) := by
  have hl := hz.len
  unfold impl_FindBox
  rw [yard_impl y hz hn, ← yard_same, hy, Option.bind_some, cond_true]
  rw [loop_find (p := fun s => decide (atS y x s ≥ 0)) (yes := fun s => some ((s : Int), atS y x s, true)) (no := some (-1, -1, false)) (len := y.Stacks.length) (by omega) (fun s J hs _ => ?_) (fun J _ => ?_) (by omega)]
  · unfold findB
    cases (List.range y.Stacks.length).find? (fun s => decide (atS y x s ≥ 0)) <;> rfl
  · unfold impl_FindBox_L3
    have he := hz.each s hs
    simp only [Int.ofNat_lt, hs, decide_true, cond_true, ix_nat hs, Int.toNat_natCast, index_impl _ x he hn, Option.bind_some, w64_succ (show s < 9223372036854775807 by omega)]
    rfl
  · unfold impl_FindBox_L3
    simp only [Int.lt_irrefl, decide_false, cond_false]
end Go.Sm
end

section
set_option linter.unusedSimpArgs false
set_option linter.deprecated false
set_option linter.unusedSectionVars false
set_option linter.unusedVariables false
set_option linter.unusedSimpArgs false
namespace Go.Sm
attribute [local irreducible] bd chk ix loopN
/-! ### A box goes from a stack to another; where to -/
def moveB (L : List (List Int)) (f t : Nat) : List (List Int) :=
  (L.set t (L.getD t [] ++ [(L.getD f []).getD ((L.getD f []).length - 1) 0])).set f ((L.getD f []).take ((L.getD f []).length - 1))
structure LSz (L : List (List Int)) : Prop where
  len : L.length ≤ 100000000
  each : ∀ s, s < L.length → (L.getD s []).length ≤ 100000000
theorem moveB_len (L : List (List Int)) (f t : Nat) : (moveB L f t).length = L.length := by simp [moveB]
theorem shift_spec {n : Nat} {H : Int} {L : List (List Int)} (hz : LSz L) {f t : Nat} (hf : f < L.length) (ht : t < L.length) (hne : f ≠ t) (h0 : 0 < (L.getD f []).length) : spec_l18Shift n ⟨H, L⟩ (f : Int) (t : Int) = some (moveB L f t) := by
  have h1 := hz.each f hf
  have h2 := hz.each t ht
  obtain ⟨m, hm⟩ : ∃ m, (L.getD f []).length = m + 1 := ⟨(L.getD f []).length - 1, by omega⟩
  have hw : w64 (((m + 1 : Nat) : Int) - 1) = (m : Int) := by rw [w64_id (by omega) (by omega)]; omega
  have hfs : f < (L.set t (L.getD t [] ++ [(L.getD f []).getD m 0])).length := by simpa using hf
  unfold spec_l18Shift moveB
  simp only [hm, ix_nat hf, ix_nat ht, Int.toNat_natCast, hf, ht, decide_true, chk_true, hw, bd_eq, ix_nat (show m < m + 1 by omega), Nat.lt_succ_self, Nat.add_sub_cancel, ix_nat hfs, hfs, getD_set_ne hne, Nat.zero_add, Nat.sub_zero, List.drop_zero]
  rw [chk_dec (by rw [List.length_append, List.length_singleton]; omega), chk_dec (by omega), chk_dec (by omega), chk_dec (by omega)]
theorem lift_impl {n : Nat} {H : Int} {L : List (List Int)} (hz : LSz L) {f t : Nat} (hf : f < L.length) (ht : t < L.length) (hne : f ≠ t) (h0 : 0 < (L.getD f []).length) : impl_Yard_lift n ⟨H, L⟩ (f : Int) (t : Int) = some (moveB L f t) := by
  have h1 := hz.each f hf
  have h2 := hz.each t ht
  obtain ⟨m, hm⟩ : ∃ m, (L.getD f []).length = m + 1 := ⟨(L.getD f []).length - 1, by omega⟩
  have hw : w64 (((m + 1 : Nat) : Int) - 1) = (m : Int) := by rw [w64_id (by omega) (by omega)]; omega
  have hfs : f < (L.set t (L.getD t [] ++ [(L.getD f []).getD m 0])).length := by simpa using hf
  have ho : impl_own_int_f104 n (List.take m (L.getD f [])) = some (List.take m (L.getD f [])) := ownI_impl n _ (by rw [List.length_take]; omega)
  unfold impl_Yard_lift moveB
  simp only [hm, ix_nat hf, ix_nat ht, Int.toNat_natCast, hf, ht, decide_true, chk_true, hw, bd_eq, ix_nat (show m < m + 1 by omega), Nat.lt_succ_self, Nat.add_sub_cancel, ix_nat hfs, hfs, getD_set_ne hne, Nat.zero_add, Nat.sub_zero, List.drop_zero, ownI_impl n _ (Nat.le_trans h2 (by omega)), Option.bind_some, hne, decide_false, cond_false]
  rw [chk_dec (by rw [List.length_append, List.length_singleton]; omega), chk_dec (by omega), chk_dec (by omega), chk_dec (by omega), ho, Option.bind_some]
def bestS (H : Int) (L : List (List Int)) (s : Nat) (b : Int) (k : Nat) : Int :=
  bif !decide ((k : Int) = (s : Int)) then (bif decide (((L.getD k []).length : Int) < H) then (bif decide (b < 0) then (k : Int) else (bif decide (((L.getD k []).length : Int) < ((L.getD b.toNat []).length : Int)) then (k : Int) else b)) else b) else b
def bestU (H : Int) (L : List (List Int)) (s : Nat) : Nat → Int
  | 0 => -1
  | k + 1 => bestS H L s (bestU H L s k) k
def bestB (H : Int) (L : List (List Int)) (s : Nat) : Int := bestU H L s L.length
def BestOk (L : List (List Int)) (s k : Nat) (b : Int) : Prop := b = -1 ∨ ∃ j : Nat, b = (j : Int) ∧ j < k ∧ j ≠ s
theorem bestS_ok {H : Int} {L : List (List Int)} {s k : Nat} {b : Int} (h : BestOk L s k b) : BestOk L s (k + 1) (bestS H L s b k) := by
  have h1 : BestOk L s (k + 1) b := by
    rcases h with h | ⟨j, h1, h2, h3⟩
    · exact .inl h
    · exact .inr ⟨j, h1, by omega, h3⟩
  unfold bestS
  cases hk : decide ((k : Int) = (s : Int)) with
  | true => exact h1
  | false =>
    have hk := of_decide_eq_false hk
    have h2 : BestOk L s (k + 1) (k : Int) := .inr ⟨k, rfl, by omega, by omega⟩
    cases decide (((L.getD k []).length : Int) < H) <;> cases decide (b < 0) <;> cases decide (((L.getD k []).length : Int) < ((L.getD b.toNat []).length : Int)) <;> first | exact h1 | exact h2
theorem bestU_ok (H : Int) (L : List (List Int)) (s : Nat) : ∀ k, BestOk L s k (bestU H L s k)
  | 0 => .inl rfl
  | k + 1 => bestS_ok (bestU_ok H L s k)
theorem best_step {n : Nat} {R : Type} {H : Int} {L : List (List Int)} {s k : Nat} {b : Int} {J : Int → Int → Option R} (hk : k < L.length) (hl : L.length ≤ 100000000) (hb : BestOk L s k b) :
    (bif !decide ((k : Int) = (s : Int)) then (bif decide (((L.getD k []).length : Int) < H) then (bif decide (b < 0) then J (k : Int) (w64 ((k : Int) + 1)) else ix b L.length (chk (decide (b.toNat < L.length)) (bif decide (((L.getD k []).length : Int) < ((L.getD b.toNat []).length : Int)) then J (k : Int) (w64 ((k : Int) + 1)) else J b (w64 ((k : Int) + 1))))) else J b (w64 ((k : Int) + 1))) else J b (w64 ((k : Int) + 1))) = J (bestS H L s b k) ((k + 1 : Nat) : Int) := by
  unfold bestS
  rw [w64_succ (by omega)]
  cases decide ((k : Int) = (s : Int)) with
  | true => rfl
  | false =>
    cases decide (((L.getD k []).length : Int) < H) with
    | false => rfl
    | true =>
      rcases hb with rfl | ⟨j, rfl, hj, _⟩
      · rfl
      · simp only [Bool.not_false, cond_true, show ¬ ((j : Int) < 0) from by omega, decide_false, cond_false, ix_nat (show j < L.length by omega), Int.toNat_natCast]
        rw [chk_dec (by omega)]
        cases decide (((L.getD k []).length : Int) < ((L.getD j []).length : Int)) <;> rfl
/-! ### The boxes above are taken off -/
def outR (H : Int) (s : Nat) : Nat → List (List Int) → Option (List (List Int))
  | 0, L => some L
  | d + 1, L => bif decide (bestB H L s < 0) then none else outR H s d (moveB L s (bestB H L s).toNat)
/-- What a yard's stack is while its boxes go. -/
structure Mid (m s t d : Nat) (H : Int) (L : List (List Int)) : Prop where
  len : L.length = m
  top : (L.getD s []).length = t + 1 + d
  each : ∀ k, k < m → ((L.getD k []).length : Int) ≤ H
theorem bestS_low {H : Int} {L : List (List Int)} {s k : Nat} {b : Int} (h : b = -1 ∨ ((L.getD b.toNat []).length : Int) < H) : bestS H L s b k = -1 ∨ ((L.getD (bestS H L s b k).toNat []).length : Int) < H := by
  unfold bestS
  cases decide ((k : Int) = (s : Int)) with
  | true => exact h
  | false =>
    cases h1 : decide (((L.getD k []).length : Int) < H) with
    | false => exact h
    | true =>
      have h1 := of_decide_eq_true h1
      cases decide (b < 0) <;> cases decide (((L.getD k []).length : Int) < ((L.getD b.toNat []).length : Int)) <;> first | exact .inr h1 | exact h
theorem bestU_low (H : Int) (L : List (List Int)) (s : Nat) : ∀ k, bestU H L s k = -1 ∨ ((L.getD (bestU H L s k).toNat []).length : Int) < H
  | 0 => .inl rfl
  | k + 1 => bestS_low (bestU_low H L s k)
theorem best_cases (H : Int) (L : List (List Int)) (s : Nat) : bestB H L s = -1 ∨ ∃ j : Nat, bestB H L s = (j : Int) ∧ j < L.length ∧ j ≠ s ∧ ((L.getD j []).length : Int) < H := by
  unfold bestB
  rcases bestU_ok H L s L.length with h | ⟨j, h1, h2, h3⟩
  · exact .inl h
  · refine .inr ⟨j, h1, h2, h3, ?_⟩
    rcases bestU_low H L s L.length with h | h
    · rw [h] at h1; omega
    · rw [h1] at h; exact h
theorem Mid.step {m s t d : Nat} {H : Int} {L : List (List Int)} (h : Mid m s t (d + 1) H L) (hs : s < m) {j : Nat} (hj : j < m) (hne : j ≠ s) (hlow : ((L.getD j []).length : Int) < H) : Mid m s t d H (moveB L s j) := by
  have hl := h.len
  have ht := h.top
  refine ⟨by rw [moveB_len]; exact hl, ?_, fun k hk => ?_⟩
  · unfold moveB
    rw [getD_set (by simp; omega), List.length_take]
    omega
  · unfold moveB
    by_cases e : k = s
    · subst e
      rw [getD_set (by simp; omega), List.length_take]
      have := h.each k hk
      omega
    · rw [getD_set_ne e]
      by_cases e2 : k = j
      · subst e2
        rw [getD_set (by omega), List.length_append, List.length_singleton]
        omega
      · rw [getD_set_ne e2]
        exact h.each k hk
theorem outR_mid {m s t : Nat} {H : Int} (hs : s < m) : ∀ {d : Nat} {L L' : List (List Int)}, Mid m s t d H L → outR H s d L = some L' → Mid m s t 0 H L'
  | 0, L, L', h, e => by cases e; exact h
  | d + 1, L, L', h, e => by
    unfold outR at e
    rcases best_cases H L s with hb | ⟨j, hb, h1, h2, h3⟩
    · rw [hb] at e; cases e
    · rw [hb, decide_eq_false (by omega), cond_false, Int.toNat_natCast] at e
      exact outR_mid hs (h.step hs (by rw [← h.len]; exact h1) h2 h3) e
end Go.Sm
end

section
set_option linter.unusedSimpArgs false
set_option linter.deprecated false
set_option linter.unusedSectionVars false
set_option linter.unusedVariables false
set_option linter.unusedSimpArgs false
namespace Go.Sm
attribute [local irreducible] bd chk ix loopN
/-! ### A deed in the yard -/
def opB (y : SYard) (op : SYardOp) : Bool :=
  bif decide (op.Kind = 1) then decide (0 ≤ op.Stack ∧ op.Stack ≤ (y.Stacks.length : Int) - 1) && decide (1 ≤ op.Box ∧ op.Box ≤ 1000000)
  else bif decide (op.Kind = 3) then decide (0 ≤ op.Stack ∧ op.Stack ≤ (y.Stacks.length : Int) - 1) && (decide (0 ≤ op.Box ∧ op.Box ≤ (y.Stacks.length : Int) - 1) && !decide (op.Box = op.Stack))
  else decide (op.Kind = 2)
def outY (y : SYard) (s t : Nat) : SYard × Int × Int :=
  match outR y.High s ((stk y s).length - 1 - t) y.Stacks with
  | none => (y, 0, 4)
  | some L => (⟨y.High, L.set s ((L.getD s []).take t)⟩, (((stk y s).length - 1 - t : Nat) : Int), 0)
def doC (y : SYard) (op : SYardOp) : SYard × Int × Int :=
  bif decide (op.Kind = 1) then (bif (findB y op.Box).2.2 then (y, 0, 2) else bif decide (((stk y op.Stack.toNat).length : Int) = y.High) then (y, 0, 4) else (⟨y.High, y.Stacks.set op.Stack.toNat (stk y op.Stack.toNat ++ [op.Box])⟩, 0, 0))
  else bif decide (op.Kind = 3) then (bif decide (((stk y op.Box.toNat).length : Int) = 0) then (y, 0, 3) else bif decide (((stk y op.Stack.toNat).length : Int) = y.High) then (y, 0, 4) else (⟨y.High, moveB y.Stacks op.Box.toNat op.Stack.toNat⟩, 0, 0))
  else bif !(findB y op.Box).2.2 then (y, 0, 3) else outY y (findB y op.Box).1.toNat (findB y op.Box).2.1.toNat
def doY (y : SYard) (op : SYardOp) : SYard × Int × Int := bif !yardB y then (y, 0, 1) else bif !opB y op then (y, 0, 1) else doC y op
structure YOk (y : SYard) : Prop where
  high : 1 ≤ y.High ∧ y.High ≤ 6
  len : y.Stacks.length ≤ 12
  each : ∀ s, s < y.Stacks.length → ((stk y s).length : Int) ≤ y.High
theorem yOk {y : SYard} (h : yardB y = true) : YOk y := by
  unfold yardB yardHead at h
  simp only [Bool.and_eq_true, decide_eq_true_eq] at h
  obtain ⟨⟨h1, h2⟩, h3, _⟩ := h
  refine ⟨h1, by omega, fun s hs => ?_⟩
  have := all_iff.1 h3 s hs
  unfold high at this
  simp only [Bool.not_eq_true', decide_eq_false_iff_not] at this
  omega
theorem Mid.sz {m s t d : Nat} {H : Int} {L : List (List Int)} (h : Mid m s t d H L) (hm : m ≤ 12) (hh : H ≤ 6) : LSz L := by
  have hl := h.len
  exact ⟨by omega, fun k hk => by have := h.each k (by omega); omega⟩
theorem out_spec {n : Nat} {y : SYard} (hy : YOk y) (hz : YardSz y) (hn : 1000000000 < n) {s t : Nat} (hs : s < y.Stacks.length) (ht : t < (stk y s).length) : spec_DoYard_k5 n (s : Int) (t : Int) y y.High y.Stacks = some (outY y s t) := by
  have hyh := hy.high
  have hyl := hy.len
  have hye := hy.each s hs
  have hd0 : ∃ d0, (stk y s).length - 1 - t = d0 := ⟨_, rfl⟩
  obtain ⟨d0, hd0⟩ := hd0
  unfold spec_DoYard_k5
  refine loopN_ind (fun x => (x.2.getD s []).length - (t + 1)) (fun x => ∃ d many : Nat, x.1 = (many : Int) ∧ many + d = d0 ∧ Mid y.Stacks.length s t d y.High x.2 ∧ outR y.High s d x.2 = outR y.High s d0 y.Stacks) (fun x r => r = some (outY y s t)) ?_ n _ ⟨d0, 0, rfl, by omega, ⟨rfl, by show (stk y s).length = _; omega, fun k hk => hy.each k hk⟩, rfl⟩ (by show (stk y s).length - (t + 1) < n; omega)
  rintro ⟨_, L⟩ J ⟨d, many, rfl, hmd, hM, hout⟩ ih
  change Mid y.Stacks.length s t d y.High L at hM
  change outR y.High s d L = _ at hout
  have hz := hM.sz hyl hyh.2
  have hl := hM.len
  have htop := hM.top
  have hsL : s < L.length := by omega
  show spec_DoYard_L23 n _ _ _ (s : Int) (t : Int) (many : Int) y _ _ _ L = _
  unfold spec_DoYard_L23
  simp only [ix_nat hsL, Int.toNat_natCast, hsL, decide_true, chk_true, htop]
  rw [w64_succ (show t < 9223372036854775807 by omega)]
  cases d with
  | zero =>
    rw [decide_eq_false (by omega), cond_false]
    simp only [Nat.add_zero, Nat.zero_add, Nat.sub_zero, List.drop_zero, bd_eq]
    rw [chk_dec (by omega), chk_dec (by omega), chk_dec (by omega)]
    unfold outY
    rw [hd0, ← hout]
    show _ = some ((⟨y.High, L.set s ((L.getD s []).take t)⟩ : SYard), (d0 : Int), (0 : Int))
    rw [← hmd]
    rfl
  | succ d =>
    rw [decide_eq_true (by omega), cond_true]
    unfold spec_DoYard_k4
    refine loop_runS (S := Int) (enc := fun k b => (b, k)) (len := L.length) (I := fun k b => b = bestU y.High L s k) (Q := fun r => r = some (outY y s t)) (fun k b J2 hk hi => ?_) (fun b J2 hi => ?_) (by omega) (s0 := -1) rfl
    · refine ⟨_, rfl, ?_⟩
      subst hi
      show spec_DoYard_L26 n _ _ (s : Int) (t : Int) (many : Int) _ (k : Int) y _ _ _ L = _
      unfold spec_DoYard_L26 spec_DoYard_k3
      simp only [Int.ofNat_lt, hk, decide_true, cond_true, ix_nat hk, Int.toNat_natCast, chk_true]
      show _ = J2 (bestS y.High L s (bestU y.High L s k) k, ((k + 1 : Nat) : Int))
      rw [← best_step (n := n) (J := fun a c => J2 (a, c)) hk (by omega) (bestU_ok y.High L s k)]
      rcases bestU_ok y.High L s k with hb | ⟨j, hb, hj, _⟩
      · rw [hb]; rfl
      · have hjL : j < L.length := by omega
        simp only [hb, ix_nat hjL, Int.toNat_natCast, hjL, decide_true, chk_true, Int.ofNat_lt]
    · subst hi
      show spec_DoYard_L26 n _ _ (s : Int) (t : Int) (many : Int) (bestB y.High L s) (L.length : Int) y _ _ _ L = _
      unfold spec_DoYard_L26
      simp only [Int.lt_irrefl, decide_false, cond_false]
      rcases best_cases y.High L s with hb | ⟨j, hb, hj, hjs, hlow⟩
      · have hn1 : outR y.High s d0 y.Stacks = none := by
          rw [← hout]
          unfold outR
          rw [hb]
          rfl
        rw [hb, decide_eq_true (by omega), cond_true, copy_spec y ‹_› hn, Option.bind_some]
        unfold outY
        rw [hd0, hn1]
      · rw [hb, decide_eq_false (by omega), cond_false, shift_spec hz hsL hj (Ne.symm hjs) (by omega), Option.bind_some]
        simp only [bd_eq]
        rw [w64_succ (show many < 9223372036854775807 by omega)]
        have hstep := hM.step hs (by omega) hjs hlow
        refine ih (((many + 1 : Nat) : Int), moveB L s j) ⟨d, many + 1, rfl, by omega, hstep, ?_⟩ ?_
        · rw [← hout]
          conv => rhs; unfold outR
          rw [hb, decide_eq_false (by omega), cond_false, Int.toNat_natCast]
        · have := hstep.top
          show ((moveB L s j).getD s []).length - (t + 1) < (L.getD s []).length - (t + 1)
          omega
theorem out_impl {n : Nat} {y : SYard} (hy : YOk y) (hn : 1000000000 < n) {s t : Nat} (hs : s < y.Stacks.length) (ht : t < (stk y s).length) : impl_DoYard_k3 n (s : Int) (t : Int) y y.High y.Stacks y.High y.Stacks = some (outY y s t) := by
  have hyh := hy.high
  have hyl := hy.len
  have hye := hy.each s hs
  have hd0 : ∃ d0, (stk y s).length - 1 - t = d0 := ⟨_, rfl⟩
  obtain ⟨d0, hd0⟩ := hd0
  unfold impl_DoYard_k3
  refine loopN_ind (fun x => (x.2.getD s []).length - (t + 1)) (fun x => ∃ d many : Nat, x.1 = (many : Int) ∧ many + d = d0 ∧ Mid y.Stacks.length s t d y.High x.2 ∧ outR y.High s d x.2 = outR y.High s d0 y.Stacks) (fun x r => r = some (outY y s t)) ?_ n _ ⟨d0, 0, rfl, by omega, ⟨rfl, by show (stk y s).length = _; omega, fun k hk => hy.each k hk⟩, rfl⟩ (by show (stk y s).length - (t + 1) < n; omega)
  rintro ⟨_, L⟩ J ⟨d, many, rfl, hmd, hM, hout⟩ ih
  change Mid y.Stacks.length s t d y.High L at hM
  change outR y.High s d L = _ at hout
  have hz := hM.sz hyl hyh.2
  have hl := hM.len
  have htop := hM.top
  have hsL : s < L.length := by omega
  show impl_DoYard_L25 n _ _ _ (s : Int) (t : Int) (many : Int) y _ _ _ _ _ L = _
  unfold impl_DoYard_L25
  simp only [ix_nat hsL, Int.toNat_natCast, hsL, decide_true, chk_true, htop, bd_eq]
  rw [show w64 (((t + 1 + d : Nat) : Int) - 1) = ((t + d : Nat) : Int) from by rw [w64_id (by omega) (by omega)]; omega]
  cases d with
  | zero =>
    rw [decide_eq_false (by omega), cond_false]
    simp only [Nat.add_zero, Nat.zero_add, Nat.sub_zero, List.drop_zero]
    rw [chk_dec (by omega), chk_dec (by omega), chk_dec (by omega), ownI_impl n _ (by rw [List.length_take]; omega), Option.bind_some]
    unfold outY
    rw [hd0, ← hout]
    show _ = some ((⟨y.High, L.set s ((L.getD s []).take t)⟩ : SYard), (d0 : Int), (0 : Int))
    rw [← hmd]
    rfl
  | succ d =>
    rw [decide_eq_true (by omega), cond_true]
    unfold impl_DoYard_k2
    refine loop_runS (S := Int) (enc := fun k b => (b, k)) (len := L.length) (I := fun k b => b = bestU y.High L s k) (Q := fun r => r = some (outY y s t)) (fun k b J2 hk hi => ?_) (fun b J2 hi => ?_) (by omega) (s0 := -1) rfl
    · refine ⟨_, rfl, ?_⟩
      subst hi
      show impl_DoYard_L29 n _ _ (s : Int) (t : Int) (many : Int) _ _ (k : Int) y _ _ _ _ _ L = _
      unfold impl_DoYard_L29 impl_DoYard_k1
      simp only [Int.ofNat_lt, hk, decide_true, cond_true, ix_nat hk, Int.toNat_natCast, chk_true]
      show _ = J2 (bestS y.High L s (bestU y.High L s k) k, ((k + 1 : Nat) : Int))
      rw [← best_step (n := n) (J := fun a c => J2 (a, c)) hk (by omega) (bestU_ok y.High L s k)]
      rcases bestU_ok y.High L s k with hb | ⟨j, hb, hj, _⟩
      · rw [hb]; rfl
      · have hjL : j < L.length := by omega
        simp only [hb, ix_nat hjL, Int.toNat_natCast, hjL, decide_true, chk_true, Int.ofNat_lt]
    · subst hi
      show impl_DoYard_L29 n _ _ (s : Int) (t : Int) (many : Int) (bestB y.High L s) _ (L.length : Int) y _ _ _ _ _ L = _
      unfold impl_DoYard_L29
      simp only [Int.lt_irrefl, decide_false, cond_false]
      rcases best_cases y.High L s with hb | ⟨j, hb, hj, hjs, hlow⟩
      · have hn1 : outR y.High s d0 y.Stacks = none := by
          rw [← hout]
          unfold outR
          rw [hb]
          rfl
        rw [hb, decide_eq_true (by omega), cond_true]
        unfold outY
        rw [hd0, hn1]
      · rw [hb, decide_eq_false (by omega), cond_false, lift_impl hz hsL hj (Ne.symm hjs) (by omega), Option.bind_some]
        simp only [bd_eq]
        rw [w64_succ (show many < 9223372036854775807 by omega)]
        have hstep := hM.step hs (by omega) hjs hlow
        refine ih (((many + 1 : Nat) : Int), moveB L s j) ⟨d, many + 1, rfl, by omega, hstep, ?_⟩ ?_
        · rw [← hout]
          conv => rhs; unfold outR
          rw [hb, decide_eq_false (by omega), cond_false, Int.toNat_natCast]
        · have := hstep.top
          show ((moveB L s j).getD s []).length - (t + 1) < (L.getD s []).length - (t + 1)
          omega
end Go.Sm
end

section
set_option linter.unusedSimpArgs false
set_option linter.deprecated false
set_option linter.unusedSectionVars false
set_option linter.unusedVariables false
set_option linter.unusedSimpArgs false
namespace Go.Sm
attribute [local irreducible] bd chk ix loopN
theorem op_spec {n : Nat} (y : SYard) (op : SYardOp) (hl : y.Stacks.length ≤ 100000000) : spec_l18Op n y op = some (opB y op) := by
  unfold spec_l18Op opB
  rw [show w64 ((y.Stacks.length : Int) - 1) = (y.Stacks.length : Int) - 1 from w64_id (by omega) (by omega)]
  simp only [bd_eq, in_spec, Option.bind_some]
  cases decide (op.Kind = 1) with
  | true =>
    simp only [cond_true]
    cases decide (0 ≤ op.Stack ∧ op.Stack ≤ (y.Stacks.length : Int) - 1) <;> rfl
  | false =>
    simp only [cond_false]
    cases decide (op.Kind = 3) with
    | true =>
      simp only [cond_true]
      cases decide (0 ≤ op.Stack ∧ op.Stack ≤ (y.Stacks.length : Int) - 1) <;> cases decide (0 ≤ op.Box ∧ op.Box ≤ (y.Stacks.length : Int) - 1) <;> rfl
    | false => rfl
/-- What a deed that is right says of its numbers. -/
theorem op_ok {y : SYard} {op : SYardOp} (h : opB y op = true) :
    (op.Kind = 1 → ∃ k : Nat, op.Stack = (k : Int) ∧ k < y.Stacks.length) ∧ (op.Kind = 3 → ∃ k j : Nat, op.Stack = (k : Int) ∧ k < y.Stacks.length ∧ op.Box = (j : Int) ∧ j < y.Stacks.length ∧ j ≠ k) := by
  unfold opB at h
  constructor
  · intro hk
    rw [decide_eq_true hk, cond_true, Bool.and_eq_true, decide_eq_true_eq] at h
    exact ⟨op.Stack.toNat, by omega, by omega⟩
  · intro hk
    rw [decide_eq_false (by omega), cond_false, decide_eq_true hk, cond_true] at h
    simp only [Bool.and_eq_true, decide_eq_true_eq, Bool.not_eq_true', decide_eq_false_iff_not] at h
    exact ⟨op.Stack.toNat, op.Box.toNat, by omega, by omega, by omega, by omega, by omega⟩
theorem yl {y : SYard} (hz : YardSz y) : LSz y.Stacks := ⟨hz.len, hz.each⟩
theorem push_spec {n : Nat} {y : SYard} (hz : YardSz y) {op : SYardOp} {k : Nat} (hk : op.Stack = (k : Int)) (hl : k < y.Stacks.length) :
    spec_DoYard_k0 n op y.High y.Stacks = some (⟨y.High, y.Stacks.set k (stk y k ++ [op.Box])⟩, 0, 0) := by
  have he : (y.Stacks.getD k []).length ≤ 100000000 := hz.each k hl
  unfold spec_DoYard_k0
  simp only [hk, ix_nat hl, Int.toNat_natCast, hl, decide_true, chk_true, bd_eq]
  rw [chk_dec (by rw [List.length_append, List.length_singleton]; omega)]
theorem push_impl {n : Nat} {y : SYard} (hz : YardSz y) {op : SYardOp} {k : Nat} (hk : op.Stack = (k : Int)) (hl : k < y.Stacks.length) :
    impl_DoYard_k0 n op y.High y.Stacks = some (⟨y.High, y.Stacks.set k (stk y k ++ [op.Box])⟩, 0, 0) := by
  have he : (y.Stacks.getD k []).length ≤ 100000000 := hz.each k hl
  unfold impl_DoYard_k0
  have ho : impl_own_int_f104 n (y.Stacks.getD k [] ++ [op.Box]) = some (y.Stacks.getD k [] ++ [op.Box]) := ownI_impl n _ (by rw [List.length_append, List.length_singleton]; omega)
  simp only [hk, ix_nat hl, Int.toNat_natCast, hl, decide_true, chk_true, bd_eq]
  rw [chk_dec (by rw [List.length_append, List.length_singleton]; omega), ho, Option.bind_some]
theorem core_spec {n : Nat} {y : SYard} (hz : YardSz y) (hy : yardB y = true) {op : SYardOp} (ho : opB y op = true) (hn : 1000000000 < n) : spec_DoYard_k6 n y op y.High y.Stacks = some (doC y op) := by
  obtain ⟨o1, o3⟩ := op_ok ho
  unfold spec_DoYard_k6 doC
  rw [findBox_spec y _ hz hy hn, Option.bind_some]
  cases h1 : decide (op.Kind = 1) with
  | true =>
    obtain ⟨k, hk, hl⟩ := o1 (of_decide_eq_true h1)
    rw [cond_true, cond_true]
    unfold spec_DoYard_k1
    rw [push_spec hz hk hl]
    simp only [hk, ix_nat hl, Int.toNat_natCast, hl, decide_true, chk_true]
    cases (findB y op.Box).2.2 <;> cases decide (((y.Stacks.getD k []).length : Int) = y.High) <;> rfl
  | false =>
    rw [cond_false, cond_false]
    cases h3 : decide (op.Kind = 3) with
    | true =>
      obtain ⟨k, j, hk, hkl, hj, hjl, hne⟩ := o3 (of_decide_eq_true h3)
      rw [cond_true, cond_true]
      unfold spec_DoYard_k2
      simp only [hk, hj, ix_nat hkl, ix_nat hjl, Int.toNat_natCast, hkl, hjl, decide_true, chk_true]
      cases h0 : decide (((y.Stacks.getD j []).length : Int) = 0) with
      | true => rfl
      | false =>
        have h0 := of_decide_eq_false h0
        rw [cond_false, cond_false, shift_spec (yl hz) hjl hkl hne (by omega), Option.bind_some]
        cases decide (((y.Stacks.getD k []).length : Int) = y.High) <;> rfl
    | false =>
      rw [cond_false, cond_false]
      rcases findB_spec y op.Box with e | ⟨s, t, e, hs, ht⟩
      · rw [e]; rfl
      · rw [e]
        simp only [Bool.not_true, cond_false, Int.toNat_natCast]
        exact out_spec (yOk hy) hz hn hs ht
theorem core_impl {n : Nat} {y : SYard} (hz : YardSz y) (hy : yardB y = true) {op : SYardOp} (ho : opB y op = true) (hn : 1000000000 < n) : impl_DoYard_k4 n y op y.High y.Stacks = some (doC y op) := by
  obtain ⟨o1, o3⟩ := op_ok ho
  unfold impl_DoYard_k4 doC
  rw [own_impl y hz hn, Option.bind_some, findBox_impl y _ hz hy hn, Option.bind_some]
  cases h1 : decide (op.Kind = 1) with
  | true =>
    obtain ⟨k, hk, hl⟩ := o1 (of_decide_eq_true h1)
    rw [cond_true, cond_true]
    rw [push_impl hz hk hl]
    simp only [hk, ix_nat hl, Int.toNat_natCast, hl, decide_true, chk_true]
    cases (findB y op.Box).2.2 <;> cases decide (((y.Stacks.getD k []).length : Int) = y.High) <;> rfl
  | false =>
    rw [cond_false, cond_false]
    cases h3 : decide (op.Kind = 3) with
    | true =>
      obtain ⟨k, j, hk, hkl, hj, hjl, hne⟩ := o3 (of_decide_eq_true h3)
      rw [cond_true, cond_true]
      simp only [hk, hj, ix_nat hkl, ix_nat hjl, Int.toNat_natCast, hkl, hjl, decide_true, chk_true]
      cases h0 : decide (((y.Stacks.getD j []).length : Int) = 0) with
      | true => rfl
      | false =>
        have h0 := of_decide_eq_false h0
        rw [cond_false, cond_false, lift_impl (n := n) (H := y.High) (yl hz) hjl hkl hne (by omega), Option.bind_some]
        cases decide (((y.Stacks.getD k []).length : Int) = y.High) <;> rfl
    | false =>
      rw [cond_false, cond_false]
      rcases findB_spec y op.Box with e | ⟨s, t, e, hs, ht⟩
      · rw [e]; rfl
      · rw [e]
        simp only [Bool.not_true, cond_false, Int.toNat_natCast]
        exact out_impl (yOk hy) hn hs ht
theorem doY_spec {n : Nat} (y : SYard) (op : SYardOp) (hz : YardSz y) (hn : 1000000000 < n) : spec_DoYard n y op = some (doY y op) := by
  unfold spec_DoYard doY
  rw [copy_spec y hz hn, Option.bind_some, yard_spec y hz hn, Option.bind_some, op_spec y op hz.len, Option.bind_some]
  cases hy : yardB y with
  | false => rfl
  | true =>
    simp only [Bool.not_true, cond_false]
    cases ho : opB y op with
    | false => rfl
    | true => exact core_spec hz hy ho hn
theorem doY_impl {n : Nat} (y : SYard) (op : SYardOp) (hz : YardSz y) (hn : 1000000000 < n) : impl_DoYard n y op = some (doY y op) := by
  have hl := hz.len
  unfold impl_DoYard doY
  rw [own_impl y hz hn, Option.bind_some, yard_impl y hz hn, ← yard_same]
  rw [show w64 ((y.Stacks.length : Int) - 1) = (y.Stacks.length : Int) - 1 from w64_id (by omega) (by omega)]
  simp only [bd_eq, in_impl, id_impl2, Option.bind_some]
  cases hy : yardB y with
  | false => rfl
  | true =>
    simp only [Bool.not_true, cond_false]
    have hc : opB y op = true → impl_DoYard_k4 n y op y.High y.Stacks = some (doC y op) := fun ho => core_impl hz hy ho hn
    revert hc
    unfold opB
    by_cases k1 : op.Kind = 1
    · simp only [k1, decide_true, cond_true, show (decide ((1 : Int) ≤ 1 ∧ (1 : Int) ≤ 3)) = true from rfl, Bool.not_true, cond_false, show decide ((1 : Int) = 2) = false from rfl, Bool.not_false, show decide ((1 : Int) = 3) = false from rfl]
      cases decide (0 ≤ op.Stack ∧ op.Stack ≤ (y.Stacks.length : Int) - 1) <;> cases decide (1 ≤ op.Box ∧ op.Box ≤ 1000000) <;> intro hc <;> first | rfl | exact hc rfl
    · by_cases k3 : op.Kind = 3
      · simp only [k3, decide_true, cond_true, show (decide ((1 : Int) ≤ 3 ∧ (3 : Int) ≤ 3)) = true from rfl, Bool.not_true, cond_false, show decide ((3 : Int) = 2) = false from rfl, Bool.not_false, show decide ((3 : Int) = 1) = false from rfl]
        cases decide (0 ≤ op.Stack ∧ op.Stack ≤ (y.Stacks.length : Int) - 1) <;> cases decide (0 ≤ op.Box ∧ op.Box ≤ (y.Stacks.length : Int) - 1) <;> cases decide (op.Box = op.Stack) <;> intro hc <;> first | rfl | exact hc rfl
      · by_cases k2 : op.Kind = 2
        · simp only [k2, decide_true, cond_true, show (decide ((1 : Int) ≤ 2 ∧ (2 : Int) ≤ 3)) = true from rfl, Bool.not_true, cond_false, show decide ((2 : Int) = 1) = false from rfl, show decide ((2 : Int) = 3) = false from rfl]
          exact fun hc => hc trivial
        · intro _
          rw [show decide (1 ≤ op.Kind ∧ op.Kind ≤ 3) = false from decide_eq_false (by omega)]
          simp only [k1, k2, k3, decide_false, cond_false, Bool.not_false, cond_true]
/-! ### A yard stays a yard -/
theorem sumOf_bound {α : Type} {f : α → Nat} {c : Nat} : ∀ l : List α, (∀ x ∈ l, f x ≤ c) → sumOf f l ≤ c * l.length
  | [], _ => Nat.zero_le _
  | a :: l, h => by
    have h1 := h a (List.mem_cons_self ..)
    have h2 := sumOf_bound l fun x hx => h x (List.mem_cons_of_mem _ hx)
    show f a + sumOf f l ≤ c * (l.length + 1)
    rw [Nat.mul_add]
    omega
structure YFits (m : Nat) (H : Int) (y : SYard) : Prop where
  high : y.High = H
  len : y.Stacks.length = m
  each : ∀ k, k < m → ((stk y k).length : Int) ≤ H
theorem YFits.w {m : Nat} {H : Int} {y : SYard} (h : YFits m H y) (hm : m ≤ 12) (hh : H ≤ 6) : w_SYard y ≤ 84 := by
  have hl := h.len
  have h1 : sumOf (fun z => w_LInt z) y.Stacks ≤ 6 * y.Stacks.length := sumOf_bound _ fun x hx => by
    obtain ⟨k, hk, rfl⟩ := List.getElem_of_mem hx
    have := h.each k (by omega)
    have e : stk y k = y.Stacks[k] := getD_eq hk
    rw [e] at this
    show y.Stacks[k].length ≤ 6
    omega
  have h2 : w_SYard y = y.Stacks.length + sumOf (fun z => w_LInt z) y.Stacks := rfl
  omega
theorem yFitsY {y : SYard} (h : YOk y) : YFits y.Stacks.length y.High y := ⟨rfl, rfl, h.each⟩
theorem set_fits {y : SYard} (h : YOk y) {k : Nat} {l : List Int} (hl : (l.length : Int) ≤ y.High) : YFits y.Stacks.length y.High ⟨y.High, y.Stacks.set k l⟩ := by
  refine ⟨rfl, by simp, fun j hj => ?_⟩
  show (((y.Stacks.set k l).getD j []).length : Int) ≤ _
  by_cases e : j = k
  · subst e
    rw [getD_set hj]
    exact hl
  · rw [getD_set_ne e]
    exact h.each j hj
theorem move_fits {y : SYard} (h : YOk y) {f t : Nat} (hf : f < y.Stacks.length) (ht : t < y.Stacks.length) (hne : f ≠ t) (hlow : ((y.Stacks.getD t []).length : Int) < y.High) : YFits y.Stacks.length y.High ⟨y.High, moveB y.Stacks f t⟩ := by
  refine ⟨rfl, moveB_len _ _ _, fun j hj => ?_⟩
  show (((moveB y.Stacks f t).getD j []).length : Int) ≤ _
  unfold moveB
  by_cases e : j = f
  · subst e
    rw [getD_set (by simpa using hj), List.length_take]
    have : ((y.Stacks.getD j []).length : Int) ≤ y.High := h.each j hj
    omega
  · rw [getD_set_ne e]
    by_cases e2 : j = t
    · subst e2
      rw [getD_set hj, List.length_append, List.length_singleton]
      omega
    · rw [getD_set_ne e2]
      exact h.each j hj
theorem out_fits {y : SYard} (h : YOk y) {s t : Nat} (hs : s < y.Stacks.length) (ht : t < (stk y s).length) : YFits y.Stacks.length y.High (outY y s t).1 := by
  unfold outY
  cases ho : outR y.High s ((stk y s).length - 1 - t) y.Stacks with
  | none => exact yFitsY h
  | some L =>
    have hm : Mid y.Stacks.length s t ((stk y s).length - 1 - t) y.High y.Stacks := ⟨rfl, by show (stk y s).length = _; omega, h.each⟩
    have hM := outR_mid hs hm ho
    have hl := hM.len
    refine ⟨rfl, by simp [hl], fun j hj => ?_⟩
    show (((L.set s ((L.getD s []).take t)).getD j []).length : Int) ≤ _
    by_cases e : j = s
    · subst e
      rw [getD_set (by omega), List.length_take]
      have := hM.each j hj
      omega
    · rw [getD_set_ne e]
      exact hM.each j hj
theorem doC_fits {y : SYard} (hy : yardB y = true) {op : SYardOp} (ho : opB y op = true) : YFits y.Stacks.length y.High (doC y op).1 := by
  obtain ⟨o1, o3⟩ := op_ok ho
  have h := yOk hy
  unfold doC
  cases h1 : decide (op.Kind = 1) with
  | true =>
    obtain ⟨k, hk, hl⟩ := o1 (of_decide_eq_true h1)
    rw [cond_true, hk, Int.toNat_natCast]
    have he := h.each k hl
    cases (findB y op.Box).2.2 with
    | true => exact yFitsY h
    | false =>
      rw [cond_false]
      cases h4 : decide (((stk y k).length : Int) = y.High) with
      | true => exact yFitsY h
      | false =>
        have h4 := of_decide_eq_false h4
        exact set_fits h (by rw [List.length_append, List.length_singleton]; omega)
  | false =>
    rw [cond_false]
    cases h3 : decide (op.Kind = 3) with
    | true =>
      obtain ⟨k, j, hk, hkl, hj, hjl, hne⟩ := o3 (of_decide_eq_true h3)
      rw [cond_true, hk, hj, Int.toNat_natCast, Int.toNat_natCast]
      have he := h.each k hkl
      cases decide (((stk y j).length : Int) = 0) with
      | true => exact yFitsY h
      | false =>
        rw [cond_false]
        cases h4 : decide (((stk y k).length : Int) = y.High) with
        | true => exact yFitsY h
        | false =>
          have h4 := of_decide_eq_false h4
          exact move_fits h hjl hkl hne (by show ((stk y k).length : Int) < y.High; omega)
    | false =>
      rw [cond_false]
      rcases findB_spec y op.Box with e | ⟨s, t, e, hs, ht⟩
      · rw [e]; exact yFitsY h
      · rw [e]; exact out_fits h hs ht
theorem doY_w {y : SYard} {op : SYardOp} {c : Nat} (h : w_SYard y ≤ c) (hc : 84 ≤ c) : w_SYard (doY y op).1 ≤ c := by
  unfold doY
  cases hy : yardB y with
  | false => exact h
  | true =>
    cases ho : opB y op with
    | false => exact h
    | true =>
      have h1 := yOk hy
      have h2 := (doC_fits hy ho).w h1.len h1.high.2
      show w_SYard (doC y op).1 ≤ c
      omega
theorem zle : (0 : Int) ≤ 0 ∧ (0 : Int) ≤ 6 := ⟨Int.le_refl _, by decide⟩
theorem doY_many {y : SYard} (op : SYardOp) : 0 ≤ (doY y op).2.1 ∧ (doY y op).2.1 ≤ 6 := by
  unfold doY
  cases hy : yardB y with
  | false => exact zle
  | true =>
    cases ho : opB y op with
    | false => exact zle
    | true =>
      show 0 ≤ (doC y op).2.1 ∧ (doC y op).2.1 ≤ 6
      unfold doC
      have h := yOk hy
      cases decide (op.Kind = 1) with
      | true =>
        rw [cond_true]
        cases (findB y op.Box).2.2 with
        | true => exact zle
        | false => cases decide (((stk y op.Stack.toNat).length : Int) = y.High) <;> exact zle
      | false =>
        rw [cond_false]
        cases decide (op.Kind = 3) with
        | true =>
          rw [cond_true]
          cases decide (((stk y op.Box.toNat).length : Int) = 0) with
          | true => exact zle
          | false => cases decide (((stk y op.Stack.toNat).length : Int) = y.High) <;> exact zle
        | false =>
          rw [cond_false]
          rcases findB_spec y op.Box with e | ⟨s, t, e, hs, ht⟩
          · rw [e]; exact zle
          · rw [e]
            show 0 ≤ (outY y s t).2.1 ∧ (outY y s t).2.1 ≤ 6
            unfold outY
            have := h.each s hs
            have := h.high.2
            cases outR y.High s ((stk y s).length - 1 - t) y.Stacks with
            | none => exact zle
            | some L => exact ⟨by simp only; omega, by simp only; omega⟩
end Go.Sm
end

section
set_option linter.unusedSimpArgs false
set_option linter.deprecated false
set_option linter.unusedSectionVars false
set_option linter.unusedVariables false
set_option linter.unusedSimpArgs false
namespace Go.Sm
attribute [local irreducible] bd chk ix loopN
def stepY (s : SYard × List Int × Int) (d : SYardOp) : SYard × List Int × Int := ((doY s.1 d).1, s.2.1 ++ [(doY s.1 d).2.2], s.2.2 + (doY s.1 d).2.1)
def runY (h : SYard) (l : List SYardOp) : SYard × List Int × Int := l.foldl stepY (h, [], 0)
theorem runY_succ (h : SYard) (l : List SYardOp) {k : Nat} (hk : k < l.length) : runY h (l.take (k + 1)) = stepY (runY h (l.take k)) (l.getD k dSYardOp) := by
  unfold runY
  rw [take_succ_getD (d := dSYardOp) hk, List.foldl_append]
  rfl
theorem runY_ok (h : SYard) (l : List SYardOp) {c : Nat} (hw : w_SYard h ≤ c) (hc : 84 ≤ c) : ∀ k, k ≤ l.length → w_SYard (runY h (l.take k)).1 ≤ c ∧ (runY h (l.take k)).2.1.length = k ∧ 0 ≤ (runY h (l.take k)).2.2 ∧ (runY h (l.take k)).2.2 ≤ 6 * (k : Int)
  | 0, _ => ⟨hw, rfl, Int.le_refl _, Int.le_refl _⟩
  | k + 1, hk => by
    obtain ⟨h1, h2, h3, h4⟩ := runY_ok h l hw hc k (by omega)
    rw [runY_succ h l (by omega)]
    obtain ⟨g1, g2⟩ := doY_many (y := (runY h (l.take k)).1) (l.getD k dSYardOp)
    unfold stepY
    exact ⟨doY_w h1 hc, by simp [h2], by dsimp only; omega, by dsimp only; omega⟩
def runsY (h : SYard) (l : List SYardOp) : SYard × List Int × Int := if l.length ≤ 200 then runY h l else (h, [], 0)
theorem runs_spec {n : Nat} (h : SYard) (l : List SYardOp) (h1 : w_SYard h ≤ 1048576) (hl : l.length ≤ 1048576) (hn : 1000000000 < n) : spec_RunYard n h l = some (runsY h l) := by
  unfold spec_RunYard runsY
  rw [copy_spec h (yardSz _ (by omega)) hn, Option.bind_some]
  by_cases h200 : l.length ≤ 200
  · rw [if_pos h200]
    refine loop_runS (S := SYard × List Int × Int) (X := Int × Int × Int × List (List Int) × List Int) (enc := fun i s => (s.2.2, i, s.1.High, s.1.Stacks, s.2.1)) (len := l.length) (I := fun k s => s = runY h (l.take k)) (Q := fun r => r = some (runY h l)) (fun k s J hk hi => ?_) (fun s J hi => ?_) (n := n) (by omega) (s0 := (h, [], 0)) rfl
    · refine ⟨runY h (l.take (k + 1)), rfl, ?_⟩
      obtain ⟨g1, g2, g3, g4⟩ := runY_ok h l h1 (by omega) k (by omega)
      subst hi
      obtain ⟨m1, m2⟩ := doY_many (y := (runY h (l.take k)).1) (l.getD k dSYardOp)
      unfold spec_RunYard_L5 spec_RunYard_k0
      have hd : spec_DoYard n (⟨(runY h (l.take k)).1.High, (runY h (l.take k)).1.Stacks⟩ : SYard) (l.getD k dSYardOp) = some (doY (runY h (l.take k)).1 (l.getD k dSYardOp)) := doY_spec _ _ (yardSz _ (by show w_SYard (runY h (l.take k)).1 ≤ _; omega)) hn
      simp only [Int.ofNat_lt, hk, decide_true, cond_true, ix_nat hk, bd_eq, Int.toNat_natCast, decide_eq_true (show (l.length : Int) ≤ 200 by omega), hd, Option.bind_some, w64_succ (show k < 9223372036854775807 by omega)]
      rw [chk_dec (by simp; omega), runY_succ h l hk, w64_id (by omega) (by omega)]
      rfl
    · unfold spec_RunYard_L5
      simp only [Int.lt_irrefl, decide_false, cond_false]
      rw [hi, List.take_length]
  · rw [if_neg h200]
    obtain ⟨m, rfl⟩ : ∃ m, n = m + 1 := ⟨n - 1, by omega⟩
    rw [loopN_succ]
    unfold spec_RunYard_L5
    rw [decide_eq_true (show (0 : Int) < (l.length : Int) by omega), decide_eq_false (show ¬ (l.length : Int) ≤ 200 by omega)]
    rfl
theorem runs_impl {n : Nat} (h : SYard) (l : List SYardOp) (h1 : w_SYard h ≤ 1048576) (hl : l.length ≤ 1048576) (hn : 1000000000 < n) : impl_RunYard n h l = some (runsY h l) := by
  unfold impl_RunYard runsY
  rw [own_impl h (yardSz _ (by omega)) hn, Option.bind_some]
  by_cases h200 : l.length ≤ 200
  · rw [if_pos h200, decide_eq_false (show ¬ (l.length : Int) > 200 by omega), cond_false]
    unfold impl_RunYard_k1
    refine loop_runS (S := SYard × List Int × Int) (X := Int × Int × Int × List (List Int) × List Int) (enc := fun i s => (s.2.2, i, s.1.High, s.1.Stacks, s.2.1)) (len := l.length) (I := fun k s => s = runY h (l.take k)) (Q := fun r => r = some (runY h l)) (fun k s J hk hi => ?_) (fun s J hi => ?_) (n := n) (by omega) (s0 := (h, [], 0)) rfl
    · refine ⟨runY h (l.take (k + 1)), rfl, ?_⟩
      obtain ⟨g1, g2, g3, g4⟩ := runY_ok h l h1 (by omega) k (by omega)
      subst hi
      obtain ⟨m1, m2⟩ := doY_many (y := (runY h (l.take k)).1) (l.getD k dSYardOp)
      unfold impl_RunYard_L7 impl_RunYard_k0
      have hd : impl_DoYard n (⟨(runY h (l.take k)).1.High, (runY h (l.take k)).1.Stacks⟩ : SYard) (l.getD k dSYardOp) = some (doY (runY h (l.take k)).1 (l.getD k dSYardOp)) := doY_impl _ _ (yardSz _ (by show w_SYard (runY h (l.take k)).1 ≤ _; omega)) hn
      simp only [Int.ofNat_lt, hk, decide_true, cond_true, ix_nat hk, bd_eq, Int.toNat_natCast, hd, Option.bind_some, w64_succ (show k < 9223372036854775807 by omega)]
      rw [chk_dec (by simp; omega), runY_succ h l hk, w64_id (by omega) (by omega)]
      rfl
    · unfold impl_RunYard_L7
      simp only [Int.lt_irrefl, decide_false, cond_false]
      have g := runY_ok h l h1 (by omega) l.length (Nat.le_refl _)
      rw [List.take_length] at g hi
      subst hi
      rw [ownI_impl n _ (by omega)]
      rfl
  · rw [if_neg h200, decide_eq_true (show (l.length : Int) > 200 by omega), cond_true]
theorem runsY_len (h : SYard) (l : List SYardOp) (h1 : w_SYard h ≤ 1048576) : w_SYard (runsY h l).1 ≤ 1048576 ∧ (runsY h l).2.1.length ≤ 200 := by
  unfold runsY
  by_cases h200 : l.length ≤ 200
  · rw [if_pos h200]
    have g := runY_ok h l h1 (by omega) l.length (Nat.le_refl _)
    rw [List.take_length] at g
    exact ⟨g.1, by omega⟩
  · rw [if_neg h200]; exact ⟨h1, Nat.zero_le _⟩
theorem laws_FnExactRunYard_true (aY0 : SYard) (aOps1 : List SYardOp) (h0 : wfSYard aY0) (h1 : (aOps1.length ≤ 9223372036854775807 ∧ ∀ y ∈ aOps1, wfSYardOp y)) : ∃ n, laws_FnExactRunYard n aY0 aOps1 = some true := by
  refine ⟨1000000001, ?_⟩
  generalize hN : (1000000001 : Nat) = n
  have hn : 1000000000 < n := by omega
  unfold laws_FnExactRunYard
  rw [laws_szYard_ok (n := n) aY0 (left := 1048576) h0 (by omega) (by omega) hn, Option.bind_some]
  refine guard_sz fun hw => ?_
  rw [if_pos (by omega), laws_szYardOpS_ok (n := n) aOps1 (left := 1048576 - (w_SYard aY0 : Int)) h1 (by omega) (by omega) hn, Option.bind_some]
  by_cases hw2 : (w_LSYardOp aOps1 : Int) ≤ 1048576 - (w_SYard aY0 : Int)
  · rw [if_pos hw2, decide_eq_false (by omega), cond_false]
    have w1 : w_SYard aY0 = w_LLInt aY0.Stacks := rfl
    have w3 : w_LSYardOp aOps1 = aOps1.length := rfl
    have hS := runs_spec (n := n) aY0 aOps1 (by omega) (by omega) hn
    have hI := runs_impl (n := n) aY0 aOps1 (by omega) (by omega) hn
    obtain ⟨c1, c2⟩ := runsY_len aY0 aOps1 hw
    generalize runsY aY0 aOps1 = R at *
    obtain ⟨R1, R2, R3⟩ := R
    dsimp only at c1 c2
    have w2 : w_SYard R1 = w_LLInt R1.Stacks := rfl
    have w4 : w_LInt R2 = R2.length := rfl
    have n1 := n_LLInt_le aY0.Stacks
    have n3 := n_LLInt_le R1.Stacks
    have n5 := n_LSYardOp_le aOps1
    have n6 := n_LInt_le R2
    obtain ⟨u1, m1, _⟩ := laws_markYard_ok (n := n) aY0 1 (by omega) (by omega) (by omega) hn
    obtain ⟨u3, m2⟩ := laws_markYardOpS_ok (n := n) aOps1 (1 + ((n_LLInt aY0.Stacks : Nat) : Int)) (by omega) (by omega) (by omega) hn
    obtain ⟨v1, p1, p2⟩ := laws_markYard_ok (n := n) R1 1 (by omega) (by omega) (by omega) hn
    have p3 := p2 ⟨R1.High, v1⟩ rfl
    obtain ⟨v3, p4, p5⟩ := laws_markIntS_ok (n := n) R2 (1 + ((n_LLInt R1.Stacks : Nat) : Int)) (by omega) (by omega) (by omega) hn
    have d1 : decide (1 + ((n_LLInt aY0.Stacks : Nat) : Int) + ((n_LSYardOp aOps1 : Nat) : Int) < 0) = false := decide_eq_false (by omega)
    have d2 : decide (1 + ((n_LLInt R1.Stacks : Nat) : Int) < 0) = false := decide_eq_false (by omega)
    have d3 : decide (1 + ((n_LLInt R1.Stacks : Nat) : Int) + ((n_LInt R2 : Nat) : Int) < 0) = false := decide_eq_false (by omega)
    have e1 : (⟨aY0.High, aY0.Stacks⟩ : SYard) = aY0 := rfl
    have e2 : (⟨R1.High, R1.Stacks⟩ : SYard) = R1 := rfl
    unfold laws_FnExactRunYard_k5 laws_FnExactRunYard_k4 laws_FnExactRunYard_k3 laws_FnExactRunYard_k2 laws_FnExactRunYard_k1 laws_FnExactRunYard_k0
    simp only [laws_toYard_ok aY0 (show _ ≤ 100000000 by omega) hn, laws_toYardOpS_ok aOps1 (show _ ≤ 100000000 by omega) hn, hS, hI, Option.bind_some, laws_eqYard_ok aY0 (show _ ≤ 100000000 by omega) hn, laws_eqYard_ok R1 (show _ ≤ 100000000 by omega) hn, laws_eqYardOpS_ok aOps1 (show _ ≤ 100000000 by omega) hn, laws_eqIntS_ok R2 (show _ ≤ 100000000 by omega) hn,
      e1, e2, m1, m2, p1, p3, p4, p5, d1, d2, d3, decide_true, beq_self_eq_true, Bool.not_true, cond_false, cond_true]
  · rw [if_neg hw2]; rfl
end Go.Sm
end
