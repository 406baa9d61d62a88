import Derived.Test.YtojjoinjabogbaaEngA
/- The functions as plain functions over data, and that the law answers true for all arguments. Proved here: laws.FnExactShifts returns true for every list of stows and every port, and leaves its arguments as they were; no conditions. -/
section
set_option linter.unusedSimpArgs false
set_option linter.deprecated false
set_option linter.unusedSectionVars false
set_option linter.unusedVariables false
namespace Go.Sm
structure SBox where
  Name : ByteArray
  Weight : Int
  Class : Int
  Cold : Bool
  From : Int
  To : Int
structure SSpot where
  Bay : Int
  Row : Int
  Tier : Int
structure SStow where
  Box : SBox
  Spot : SSpot
def dSBox : SBox := ⟨str [], (0 : Int), (0 : Int), false, (0 : Int), (0 : Int)⟩
def dSSpot : SSpot := ⟨(0 : Int), (0 : Int), (0 : Int)⟩
def dSStow : SStow := ⟨dSBox, dSSpot⟩
def laws_szBox (n : Nat) (a0 : SBox) (left1 : Int) : Option Int :=
  (bd (w64 (left1 - (a0.Name.size : Int))) fun (v1 : Int) => (bif (decide (v1 < (0 : Int))) then some ((-1 : Int)) else some (v1)))
def laws_szStow (n : Nat) (a0 : SStow) (left1 : Int) : Option Int :=
  (laws_szBox n a0.Box left1).bind fun r1 => (bif (decide (r1 < (0 : Int))) then some ((-1 : Int)) else some (r1))
def laws_szStowS_L5 {R : Type} (n : Nat) (kx0 : Int → Option R) (kxr : Int → Option R) (J : Int → Int → Option R) (a3 : List SStow) (left4 : Int) (i5 : Int) : Option R :=
  (bif (decide (i5 < (a3.length : Int))) then ix i5 a3.length ((bd (a3.getD i5.toNat dSStow) fun (e12 : SStow) => (laws_szStow n e12 left4).bind fun r13 => (bif (decide (r13 < (0 : Int))) then kxr (-1 : Int) else J r13 (w64 (i5 + (1 : Int)))))) else kx0 left4)
def laws_szStowS (n : Nat) (a0 : List SStow) (left1 : Int) : Option Int :=
  (bd (w64 (left1 - (a0.length : Int))) fun (v1 : Int) => (bif (decide (v1 < (0 : Int))) then some ((-1 : Int)) else loopN (fun (x : Int × Int) J' => laws_szStowS_L5 n (fun left20 => some (left20)) (fun t21 => some (t21)) (fun left22 i23 => J' (left22, i23)) a0 x.1 x.2) n (v1, (0 : Int))))
def laws_toBox (n : Nat) (a0 : SBox) : Option SBox :=
  some (a0)
def laws_toSpot (n : Nat) (a0 : SSpot) : Option SSpot :=
  some (a0)
def laws_toStow (n : Nat) (a0 : SStow) : Option SStow :=
  (laws_toBox n a0.Box).bind fun r1 => (laws_toSpot n a0.Spot).bind fun r2 => some ((⟨r1, r2⟩ : SStow))
def laws_toStowS_L3 {R : Type} (n : Nat) (kx0 : List SStow → Option R) (J : Int → List SStow → Option R) (a1 : List SStow) (i2 : Int) (out3 : List SStow) : Option R :=
  (bif (decide (i2 < (a1.length : Int))) then ix i2 a1.length ((bd (a1.getD i2.toNat dSStow) fun (e8 : SStow) => (laws_toStow n e8).bind fun r9 => ix i2 out3.length (chk (decide (i2.toNat < out3.length)) (J (w64 (i2 + (1 : Int))) (out3.set i2.toNat r9))))) else kx0 out3)
def laws_toStowS (n : Nat) (a0 : List SStow) : Option (List SStow) :=
  chk (decide ((0 : Int) ≤ (a0.length : Int))) (chk (decide ((a0.length : Int) ≤ (a0.length : Int))) (chk (decide ((a0.length : Int) ≤ 9223372036854775807 ∧ (a0.length : Int) * (80 : Int) ≤ 281474976710656)) (loopN (fun (x : Int × List SStow) J' => laws_toStowS_L3 n (fun out10 => some (out10)) (fun i11 out12 => J' (i11, out12)) a0 x.1 x.2) n ((0 : Int), (List.replicate (a0.length : Int).toNat dSStow)))))
def spec_l1In (n : Nat) (x0 : Int) (a1 : Int) (b2 : Int) : Option Bool :=
  (bif (decide (x0 ≥ a1)) then some ((decide (x0 ≤ b2))) else some (false))
def spec_l12At_L2 {R : Type} (n : Nat) (kx0 : Option R) (kxr : Int → Option R) (J : Int → Option R) (list1 : List SStow) (i2 : Int) (s3 : SSpot) : Option R :=
  (bif (decide (i2 < (list1.length : Int))) then ix i2 list1.length ((bd (list1.getD i2.toNat dSStow) fun (e7 : SStow) => (bif ((decide (e7.Spot.Bay = s3.Bay)) && ((decide (e7.Spot.Row = s3.Row)) && (decide (e7.Spot.Tier = s3.Tier)))) then kxr i2 else J (w64 (i2 + (1 : Int)))))) else kx0)
def spec_l12At (n : Nat) (list0 : List SStow) (s1 : SSpot) : Option Int :=
  loopN (fun (x : Int) J' => spec_l12At_L2 n (some ((-1 : Int))) (fun t9 => some (t9)) J' list0 x s1) n ((0 : Int))
def spec_Shifts_L5 {R : Type} (n : Nat) (kx0 : Option R) (kxr : Bool → List Int → Option R) (J : Int → Option R) (list3 : List SStow) (port4 : Int) (i5 : Int) (out6 : List Int) : Option R :=
  (bif (decide (i5 < (list3.length : Int))) then ix i5 list3.length ((bd (list3.getD i5.toNat dSStow) fun (e11 : SStow) => (spec_l12At n list3 e11.Spot).bind fun r12 => (bif (!(decide (r12 = i5))) then kxr false [] else J (w64 (i5 + (1 : Int)))))) else kx0)
def spec_Shifts_k0 {R : Type} (n : Nat) (kx4 : Bool → Option R) (J : Bool → Int → Option R) (list21 : List SStow) (port22 : Int) (i23 : Int) (over28 : Bool) (k29 : Int) (out26 : List Int) (a27 : SStow) : Option R :=
  ix k29 list21.length ((bd (list21.getD k29.toNat dSStow) fun (e30 : SStow) => (bif over28 then J true (w64 (k29 + (1 : Int))) else (bif (decide (e30.Box.To = port22)) then (bif (decide (e30.Spot.Bay = a27.Spot.Bay)) then (bif (decide (e30.Spot.Row = a27.Spot.Row)) then J (decide (e30.Spot.Tier < a27.Spot.Tier)) (w64 (k29 + (1 : Int))) else J false (w64 (k29 + (1 : Int)))) else J false (w64 (k29 + (1 : Int)))) else J false (w64 (k29 + (1 : Int)))))))
def spec_Shifts_L15 {R : Type} (n : Nat) (kx4 : Bool → Option R) (J : Bool → Int → Option R) (list21 : List SStow) (port22 : Int) (i23 : Int) (over24 : Bool) (k25 : Int) (out26 : List Int) (a27 : SStow) : Option R :=
  (bif (decide (k25 < (list21.length : Int))) then spec_Shifts_k0 n kx4 J list21 port22 i23 over24 k25 out26 a27 else kx4 over24)
def spec_Shifts_k1 {R : Type} (n : Nat) (kx2 : List Int → Option R) (J : Int → List Int → Option R) (list14 : List SStow) (port15 : Int) (i18 : Int) (out19 : List Int) : Option R :=
  ix i18 list14.length ((bd (list14.getD i18.toNat dSStow) fun (e20 : SStow) => loopN (fun (x : Bool × Int) J' => spec_Shifts_L15 n (fun over37 => (bif over37 then (bif (decide (e20.Box.To > port15)) then chk (decide ((out19 ++ [i18]).length * 8 ≤ 140737488355328)) (J (w64 (i18 + (1 : Int))) (out19 ++ [i18])) else J (w64 (i18 + (1 : Int))) out19) else J (w64 (i18 + (1 : Int))) out19)) (fun over55 k56 => J' (over55, k56)) list14 port15 i18 x.1 x.2 out19 e20) n (false, (0 : Int))))
def spec_Shifts_L10 {R : Type} (n : Nat) (kx2 : List Int → Option R) (J : Int → List Int → Option R) (list14 : List SStow) (port15 : Int) (i16 : Int) (out17 : List Int) : Option R :=
  (bif (decide (i16 < (list14.length : Int))) then spec_Shifts_k1 n kx2 J list14 port15 i16 out17 else kx2 out17)
def spec_Shifts_k2 (n : Nat)  (list0 : List SStow) (port1 : Int) : Option (List Int × Bool) :=
  loopN (fun (x : Int) J' => spec_Shifts_L5 n (loopN (fun (x : Int × List Int) J' => spec_Shifts_L10 n (fun out57 => some (out57, true)) (fun i58 out59 => J' (i58, out59)) list0 port1 x.1 x.2) n ((0 : Int), [])) (fun t60 t61 => some (t61, t60)) J' list0 port1 x []) n ((0 : Int))
def spec_Shifts (n : Nat) (list0 : List SStow) (port1 : Int) : Option (List Int × Bool) :=
  (bif (decide ((list0.length : Int) > (40 : Int))) then some ([], false) else (spec_l1In n port1 (0 : Int) (19 : Int)).bind fun r1 => (bif (!r1) then some ([], false) else spec_Shifts_k2 n  list0 port1))
def impl_in (n : Nat) (n0 : Int) (least1 : Int) (most2 : Int) : Option Bool :=
  (bif (decide (n0 ≥ least1)) then some ((decide (n0 ≤ most2))) else some (false))
def impl_portOk (n : Nat) (n0 : Int) : Option Bool :=
  (impl_in n n0 (0 : Int) (19 : Int)).bind fun r1 => some (r1)
def impl_over (n : Nat) (a0 : SSpot) (b1 : SSpot) : Option Bool :=
  (bif (decide (a0.Bay = b1.Bay)) then (bif (decide (a0.Row = b1.Row)) then some ((decide (a0.Tier > b1.Tier))) else some (false)) else some (false))
def impl_own_int (n : Nat) (l0 : List Int) : Option (List Int) :=
  chk (decide ((0 : Int) ≤ (l0.length : Int))) (chk (decide ((l0.length : Int) ≤ 9223372036854775807 ∧ (l0.length : Int) * (8 : Int) ≤ 281474976710656)) (chk (decide (l0.length * 8 ≤ 140737488355328)) (some (l0))))
def impl_Shifts_k0 {R : Type} (n : Nat) (kx2 : Bool → Option R) (kxr : Bool → List Int → Option R) (J : Bool → Int → Option R) (list12 : List SStow) (port13 : Int) (i14 : Int) (lifted31 : Bool) (t16 : List SStow) (t17 : Int) (t18 : Int) (t19 : List SStow) (t20 : Int) (t32 : Int) (out22 : List Int) (s23 : SStow) (x33 : SStow) : Option R :=
  (bif lifted31 then J true (w64 (t32 + (1 : Int))) else (bif (decide (s23.Box.To > port13)) then (bif (decide (x33.Box.To = port13)) then (impl_over n s23.Spot x33.Spot).bind fun r35 => J r35 (w64 (t32 + (1 : Int))) else J false (w64 (t32 + (1 : Int)))) else J false (w64 (t32 + (1 : Int)))))
def impl_Shifts_k1 {R : Type} (n : Nat) (kx2 : Bool → Option R) (kxr : Bool → List Int → Option R) (J : Bool → Int → Option R) (list12 : List SStow) (port13 : Int) (i14 : Int) (lifted24 : Bool) (t16 : List SStow) (t17 : Int) (t18 : Int) (t19 : List SStow) (t20 : Int) (t25 : Int) (out22 : List Int) (s23 : SStow) : Option R :=
  ix t25 t19.length ((bd (t19.getD t25.toNat dSStow) fun (e26 : SStow) => (bif (decide (t25 < i14)) then (bif ((decide (e26.Spot.Bay = s23.Spot.Bay)) && ((decide (e26.Spot.Row = s23.Spot.Row)) && (decide (e26.Spot.Tier = s23.Spot.Tier)))) then kxr false [] else impl_Shifts_k0 n kx2 kxr J list12 port13 i14 lifted24 t16 t17 t18 t19 t20 t25 out22 s23 e26) else impl_Shifts_k0 n kx2 kxr J list12 port13 i14 lifted24 t16 t17 t18 t19 t20 t25 out22 s23 e26)))
def impl_Shifts_L9 {R : Type} (n : Nat) (kx2 : Bool → Option R) (kxr : Bool → List Int → Option R) (J : Bool → Int → Option R) (list12 : List SStow) (port13 : Int) (i14 : Int) (lifted15 : Bool) (t16 : List SStow) (t17 : Int) (t18 : Int) (t19 : List SStow) (t20 : Int) (t21 : Int) (out22 : List Int) (s23 : SStow) : Option R :=
  (bif (decide (t21 < t20)) then impl_Shifts_k1 n kx2 kxr J list12 port13 i14 lifted15 t16 t17 t18 t19 t20 t21 out22 s23 else kx2 lifted15)
def impl_Shifts_k2 {R : Type} (n : Nat) (kx0 : List Int → Option R) (kxr : Bool → List Int → Option R) (J : Int → List Int → Option R) (list3 : List SStow) (port4 : Int) (t5 : List SStow) (t6 : Int) (t9 : Int) (out10 : List Int) : Option R :=
  ix t9 t5.length ((bd (t5.getD t9.toNat dSStow) fun (e11 : SStow) => loopN (fun (x : Bool × Int) J' => impl_Shifts_L9 n (fun lifted52 => (bif lifted52 then chk (decide ((out10 ++ [t9]).length * 8 ≤ 140737488355328)) (J (w64 (t9 + (1 : Int))) (out10 ++ [t9])) else J (w64 (t9 + (1 : Int))) out10)) (fun t57 t58 => kxr t57 t58) (fun lifted59 t60 => J' (lifted59, t60)) list3 port4 t9 x.1 t5 t6 t9 list3 (list3.length : Int) x.2 out10 e11) n (false, (0 : Int))))
def impl_Shifts_L5 {R : Type} (n : Nat) (kx0 : List Int → Option R) (kxr : Bool → List Int → Option R) (J : Int → List Int → Option R) (list3 : List SStow) (port4 : Int) (t5 : List SStow) (t6 : Int) (t7 : Int) (out8 : List Int) : Option R :=
  (bif (decide (t7 < t6)) then impl_Shifts_k2 n kx0 kxr J list3 port4 t5 t6 t7 out8 else kx0 out8)
def impl_Shifts_k3 (n : Nat)  (list0 : List SStow) (port1 : Int) (t2 : Bool) : Option (List Int × Bool) :=
  (bif t2 then some ([], false) else loopN (fun (x : Int × List Int) J' => impl_Shifts_L5 n (fun out67 => (impl_own_int n out67).bind fun r68 => some (r68, true)) (fun t69 t70 => some (t70, t69)) (fun t71 out72 => J' (t71, out72)) list0 port1 list0 (list0.length : Int) x.1 x.2) n ((0 : Int), []))
def impl_Shifts (n : Nat) (list0 : List SStow) (port1 : Int) : Option (List Int × Bool) :=
  (bif (decide ((list0.length : Int) > (40 : Int))) then some ([], false) else (impl_portOk n port1).bind fun r1 => impl_Shifts_k3 n  list0 port1 (!r1))
def laws_eqIntS_L4 {R : Type} (n : Nat) (kx0 : Option R) (kxr : Bool → Option R) (J : Int → Option R) (a1 : List Int) (b2 : List Int) (i3 : Int) : Option R :=
  (bif (decide (i3 < (a1.length : Int))) then ix i3 a1.length (ix i3 b2.length ((bif (!(decide ((a1.getD i3.toNat (0 : Int)) = (b2.getD i3.toNat (0 : Int))))) then kxr false else J (w64 (i3 + (1 : Int)))))) else kx0)
def laws_eqIntS (n : Nat) (a0 : List Int) (b1 : List Int) : Option Bool :=
  (bif (!(decide ((a0.length : Int) = (b1.length : Int)))) then some (false) else loopN (fun (x : Int) J' => laws_eqIntS_L4 n (some (true)) (fun t9 => some (t9)) J' a0 b1 x) n ((0 : Int)))
def laws_eqBox_k0 (n : Nat)  (a0 : SBox) (b1 : SBox) : Option Bool :=
  (bif (!(decide (a0.Weight = b1.Weight))) then some (false) else (bif (!(decide (a0.Class = b1.Class))) then some (false) else (bif (!(a0.Cold == b1.Cold)) then some (false) else (bif (!(decide (a0.From = b1.From))) then some (false) else (bif (!(decide (a0.To = b1.To))) then some (false) else some (true))))))
def laws_eqBox (n : Nat) (a0 : SBox) (b1 : SBox) : Option Bool :=
  (bif (!(decide (a0.Name = b1.Name))) then some (false) else laws_eqBox_k0 n  a0 b1)
def laws_eqSpot (n : Nat) (a0 : SSpot) (b1 : SSpot) : Option Bool :=
  (bif (!(decide (a0.Bay = b1.Bay))) then some (false) else (bif (!(decide (a0.Row = b1.Row))) then some (false) else (bif (!(decide (a0.Tier = b1.Tier))) then some (false) else some (true))))
def laws_eqStow (n : Nat) (a0 : SStow) (b1 : SStow) : Option Bool :=
  (laws_eqBox n a0.Box b1.Box).bind fun r1 => (bif (!r1) then some (false) else (laws_eqSpot n a0.Spot b1.Spot).bind fun r3 => (bif (!r3) then some (false) else some (true)))
def laws_eqStowS_L4 {R : Type} (n : Nat) (kx0 : Option R) (kxr : Bool → Option R) (J : Int → Option R) (a1 : List SStow) (b2 : List SStow) (i3 : Int) : Option R :=
  (bif (decide (i3 < (a1.length : Int))) then ix i3 a1.length ((bd (a1.getD i3.toNat dSStow) fun (e9 : SStow) => ix i3 b2.length ((bd (b2.getD i3.toNat dSStow) fun (e10 : SStow) => (laws_eqStow n e9 e10).bind fun r11 => (bif (!r11) then kxr false else J (w64 (i3 + (1 : Int)))))))) else kx0)
def laws_eqStowS (n : Nat) (a0 : List SStow) (b1 : List SStow) : Option Bool :=
  (bif (!(decide ((a0.length : Int) = (b1.length : Int)))) then some (false) else loopN (fun (x : Int) J' => laws_eqStowS_L4 n (some (true)) (fun t15 => some (t15)) J' a0 b1 x) n ((0 : Int)))
def laws_markText_L4 {R : Type} (n : Nat) (kx0 : ByteArray → Option R) (J : Int → ByteArray → Option R) (k2 : Int) (out3 : ByteArray) : Option R :=
  (bif (decide (k2 > (0 : Int))) then (bd (w64 ((48 : Int) + (Int.tmod k2 (10 : Int)))) fun (v8 : Int) => chk (decide ((((bstr [(wu8 v8)]).size + out3.size : Nat) : Int) ≤ 9223372036854775807)) ((bd (w64 (Int.tdiv k2 (10 : Int))) fun (v9 : Int) => J v9 ((bstr [(wu8 v8)]) ++ out3)))) else kx0 out3)
def laws_markText (n : Nat) (k0 : Int) : Option ByteArray :=
  (bif (decide (k0 ≤ (0 : Int))) then some (str [109, 48]) else loopN (fun (x : Int × ByteArray) J' => laws_markText_L4 n (fun out13 => chk (decide ((((str [109]).size + out13.size : Nat) : Int) ≤ 9223372036854775807)) (some ((str [109] ++ out13)))) (fun k14 out15 => J' (k14, out15)) x.1 x.2) n (k0, str []))
def laws_markStowS_k0 {R : Type} (n : Nat) (kx0 : Int → List SStow → Option R) (J : Int → Int → List SStow → Option R) (k4 : Int) (i5 : Int) (p6 : List SStow) : Option R :=
  (laws_markText n k4).bind fun r7 => ix i5 p6.length (chk (decide (i5.toNat < p6.length)) ((bd (p6.getD i5.toNat dSStow) fun (e8 : SStow) => (bd (p6.set i5.toNat (⟨(⟨r7, e8.Box.Weight, e8.Box.Class, e8.Box.Cold, e8.Box.From, e8.Box.To⟩ : SBox), e8.Spot⟩ : SStow)) fun (l9 : List SStow) => ix i5 l9.length (chk (decide (i5.toNat < l9.length)) ((bd (l9.getD i5.toNat dSStow) fun (e10 : SStow) => (bd (l9.set i5.toNat (⟨(⟨e10.Box.Name, (w64 (k4 + (1 : Int))), e10.Box.Class, e10.Box.Cold, e10.Box.From, e10.Box.To⟩ : SBox), e10.Spot⟩ : SStow)) fun (l11 : List SStow) => (bd (w64 ((w64 (k4 + (1 : Int))) + (1 : Int))) fun (v12 : Int) => ix i5 l11.length (chk (decide (i5.toNat < l11.length)) ((bd (l11.getD i5.toNat dSStow) fun (e13 : SStow) => (bd (l11.set i5.toNat (⟨(⟨e13.Box.Name, e13.Box.Weight, v12, e13.Box.Cold, e13.Box.From, e13.Box.To⟩ : SBox), e13.Spot⟩ : SStow)) fun (l14 : List SStow) => (bd (Int.tmod (w64 (v12 + (1 : Int))) (3 : Int)) fun (v15 : Int) => ix i5 l14.length (chk (decide (i5.toNat < l14.length)) ((bd (l14.getD i5.toNat dSStow) fun (e16 : SStow) => (bd (l14.set i5.toNat (⟨(⟨e16.Box.Name, e16.Box.Weight, e16.Box.Class, (decide (v15 = (0 : Int))), e16.Box.From, e16.Box.To⟩ : SBox), e16.Spot⟩ : SStow)) fun (l17 : List SStow) => (bd (w64 ((w64 (v12 + (1 : Int))) + (1 : Int))) fun (v18 : Int) => ix i5 l17.length (chk (decide (i5.toNat < l17.length)) ((bd (l17.getD i5.toNat dSStow) fun (e19 : SStow) => (bd (l17.set i5.toNat (⟨(⟨e19.Box.Name, e19.Box.Weight, e19.Box.Class, e19.Box.Cold, v18, e19.Box.To⟩ : SBox), e19.Spot⟩ : SStow)) fun (l20 : List SStow) => ix i5 l20.length (chk (decide (i5.toNat < l20.length)) ((bd (l20.getD i5.toNat dSStow) fun (e21 : SStow) => (bd (l20.set i5.toNat (⟨(⟨e21.Box.Name, e21.Box.Weight, e21.Box.Class, e21.Box.Cold, e21.Box.From, (w64 (v18 + (1 : Int)))⟩ : SBox), e21.Spot⟩ : SStow)) fun (l22 : List SStow) => (bd (w64 ((w64 (v18 + (1 : Int))) + (1 : Int))) fun (v23 : Int) => ix i5 l22.length (chk (decide (i5.toNat < l22.length)) ((bd (l22.getD i5.toNat dSStow) fun (e24 : SStow) => (bd (l22.set i5.toNat (⟨e24.Box, (⟨v23, e24.Spot.Row, e24.Spot.Tier⟩ : SSpot)⟩ : SStow)) fun (l25 : List SStow) => ix i5 l25.length (chk (decide (i5.toNat < l25.length)) ((bd (l25.getD i5.toNat dSStow) fun (e26 : SStow) => (bd (l25.set i5.toNat (⟨e26.Box, (⟨e26.Spot.Bay, (w64 (v23 + (1 : Int))), e26.Spot.Tier⟩ : SSpot)⟩ : SStow)) fun (l27 : List SStow) => (bd (w64 ((w64 (v23 + (1 : Int))) + (1 : Int))) fun (v28 : Int) => ix i5 l27.length (chk (decide (i5.toNat < l27.length)) ((bd (l27.getD i5.toNat dSStow) fun (e29 : SStow) => (bd (l27.set i5.toNat (⟨e29.Box, (⟨e29.Spot.Bay, e29.Spot.Row, v28⟩ : SSpot)⟩ : SStow)) fun (l30 : List SStow) => J (w64 (v28 + (1 : Int))) (w64 (i5 + (1 : Int))) l30)))))))))))))))))))))))))))))))))))))))))
def laws_markStowS_L2 {R : Type} (n : Nat) (kx0 : Int → List SStow → Option R) (J : Int → Int → List SStow → Option R) (k1 : Int) (i2 : Int) (p3 : List SStow) : Option R :=
  (bif (decide (i2 < (p3.length : Int))) then laws_markStowS_k0 n kx0 J k1 i2 p3 else kx0 k1 p3)
def laws_markStowS (n : Nat) (a0 : List SStow) (k1 : Int) : Option (Int × List SStow) :=
  loopN (fun (x : Int × Int × List SStow) J' => laws_markStowS_L2 n (fun k31 p32 => some (k31, p32)) (fun k33 i34 p35 => J' (k33, i34, p35)) x.1 x.2.1 x.2.2) n (k1, (0 : Int), a0)
def laws_markIntS_L2 {R : Type} (n : Nat) (kx0 : Int → List Int → Option R) (J : Int → Int → List Int → Option R) (k1 : Int) (i2 : Int) (p3 : List Int) : Option R :=
  (bif (decide (i2 < (p3.length : Int))) then ix i2 p3.length (chk (decide (i2.toNat < p3.length)) (J (w64 (k1 + (1 : Int))) (w64 (i2 + (1 : Int))) (p3.set i2.toNat k1))) else kx0 k1 p3)
def laws_markIntS (n : Nat) (a0 : List Int) (k1 : Int) : Option (Int × List Int) :=
  loopN (fun (x : Int × Int × List Int) J' => laws_markIntS_L2 n (fun k7 p8 => some (k7, p8)) (fun k9 i10 p11 => J' (k9, i10, p11)) x.1 x.2.1 x.2.2) n (k1, (0 : Int), a0)
def laws_heldIntS_L2 {R : Type} (n : Nat) (kx0 : Int → Option R) (kxr : Int → Option R) (J : Int → Int → Option R) (a1 : List Int) (k2 : Int) (i3 : Int) : Option R :=
  (bif (decide (i3 < (a1.length : Int))) then ix i3 a1.length ((bif (!(decide ((a1.getD i3.toNat (0 : Int)) = k2))) then kxr (-1 : Int) else J (w64 (k2 + (1 : Int))) (w64 (i3 + (1 : Int))))) else kx0 k2)
def laws_heldIntS (n : Nat) (a0 : List Int) (k1 : Int) : Option Int :=
  loopN (fun (x : Int × Int) J' => laws_heldIntS_L2 n (fun k16 => some (k16)) (fun t17 => some (t17)) (fun k18 i19 => J' (k18, i19)) a0 x.1 x.2) n (k1, (0 : Int))
def laws_FnExactShifts_k0 (n : Nat)  (aList0 : List SStow) (aPort1 : Int) (w152 : Bool) (m53 : Int) (t54 : List Int) (t55 : List Int) : Option Bool :=
  (laws_toStowS n aList0).bind fun r56 => (impl_Shifts n r56 aPort1).bind fun r57 => (laws_eqIntS n r57.1 t54).bind fun r58 => (bif (!r58) then some (false) else (bif (!(r57.2 == w152)) then some (false) else (laws_heldIntS n t55 (1 : Int)).bind fun r74 => (bif (decide (r74 < (0 : Int))) then some (false) else (bif (!(decide (r74 = m53))) then some (false) else some (true)))))
def laws_FnExactShifts_k1 (n : Nat)  (aList0 : List SStow) (aPort1 : Int) (w188 : Bool) (m89 : Int) (t90 : List Int) (t91 : List Int) : Option Bool :=
  (laws_toStowS n aList0).bind fun r92 => (impl_Shifts n r92 aPort1).bind fun r93 => (laws_eqIntS n r93.1 t90).bind fun r94 => (bif (!r94) then some (false) else (bif (!(r93.2 == w188)) then some (false) else (laws_heldIntS n t91 (1 : Int)).bind fun r110 => (bif (decide (r110 < (0 : Int))) then some (false) else (bif (!(decide (r110 = m89))) then some (false) else some (true)))))
def laws_FnExactShifts_k2 (n : Nat)  (aList0 : List SStow) (aPort1 : Int) (w138 : Bool) (t39 : Bool) (t40 : List Int) (t41 : List Int) : Option Bool :=
  (bif t39 then some (false) else (laws_markIntS n t41 (1 : Int)).bind fun r81 => (laws_heldIntS n r81.2 (1 : Int)).bind fun r82 => (bif (decide (r82 < (0 : Int))) then some (false) else (bif (!(decide (r82 = r81.1))) then some (false) else laws_FnExactShifts_k1 n  aList0 aPort1 w138 r81.1 t40 r81.2)))
def laws_FnExactShifts_k3 (n : Nat)  (aList0 : List SStow) (aPort1 : Int) (w118 : Bool) (g119 : Bool) (t20 : List Int) (t21 : List SStow) (t22 : List Int) : Option Bool :=
  (laws_toStowS n aList0).bind fun r23 => (laws_eqStowS n t21 r23).bind fun r24 => (bif (!r24) then some (false) else (laws_markStowS n t21 (1 : Int)).bind fun r117 => (bif (decide (r117.1 < (0 : Int))) then some (false) else (laws_eqIntS n t22 t20).bind fun r121 => (bif (!r121) then some (false) else laws_FnExactShifts_k2 n  aList0 aPort1 w118 (!(g119 == w118)) t20 t22)))
def laws_FnExactShifts_k4 (n : Nat)  (aList0 : List SStow) (aPort1 : Int) : Option Bool :=
  (laws_toStowS n aList0).bind fun r2 => (spec_Shifts n r2 aPort1).bind fun r3 => (laws_toStowS n aList0).bind fun r4 => (impl_Shifts n r4 aPort1).bind fun r5 => (laws_eqIntS n r5.1 r3.1).bind fun r6 => (bif (!r6) then some (false) else (bif (!(r5.2 == r3.2)) then some (false) else laws_FnExactShifts_k3 n  aList0 aPort1 r3.2 r5.2 r3.1 r4 r5.1))
def laws_FnExactShifts (n : Nat) (aList0 : List SStow) (aPort1 : Int) : Option Bool :=
  (laws_szStowS n aList0 (1048576 : Int)).bind fun r1 => (bif (decide (r1 < (0 : Int))) then some (true) else laws_FnExactShifts_k4 n  aList0 aPort1)
def rng (a b x : Int) : Prop := a ≤ x ∧ x ≤ b
def wfSBox (x : SBox) : Prop := x.Name.size ≤ 9223372036854775807 ∧ rng (-9223372036854775808) 9223372036854775807 x.Weight ∧ rng (-9223372036854775808) 9223372036854775807 x.Class ∧ True ∧ rng (-9223372036854775808) 9223372036854775807 x.From ∧ rng (-9223372036854775808) 9223372036854775807 x.To
def wfSSpot (x : SSpot) : Prop := rng (-9223372036854775808) 9223372036854775807 x.Bay ∧ rng (-9223372036854775808) 9223372036854775807 x.Row ∧ rng (-9223372036854775808) 9223372036854775807 x.Tier
def wfSStow (x : SStow) : Prop := wfSBox x.Box ∧ wfSSpot x.Spot
end Go.Sm
end

section
set_option linter.unusedSimpArgs false
set_option linter.deprecated false
set_option linter.unusedSectionVars false
set_option linter.unusedVariables false
namespace Go.Sm
/-! ### Of the words that printed functions are made of -/
theorem w64_id {x : Int} (h1 : -9223372036854775808 ≤ x) (h2 : x ≤ 9223372036854775807) : w64 x = x := by
  show (let m := x % (2 ^ 64 : Int); if (true && decide ((2 : Int) ^ 63 ≤ m)) = true then m - 2 ^ 64 else m) = x
  simp only [Bool.true_and, decide_eq_true_eq]
  split <;> omega
theorem w64_rng (x : Int) : -9223372036854775808 ≤ w64 x ∧ w64 x ≤ 9223372036854775807 := by
  show -9223372036854775808 ≤ (let m := x % (2 ^ 64 : Int); if (true && decide ((2 : Int) ^ 63 ≤ m)) = true then m - 2 ^ 64 else m) ∧ (let m := x % (2 ^ 64 : Int); if (true && decide ((2 : Int) ^ 63 ≤ m)) = true then m - 2 ^ 64 else m) ≤ 9223372036854775807
  simp only [Bool.true_and, decide_eq_true_eq]
  split <;> omega
theorem chk_of {R : Type} {b : Bool} {x : Option R} (h : b = true) : chk b x = x := by rw [h]; rfl
theorem chk_dec {R : Type} {p : Prop} [Decidable p] {x : Option R} (h : p) : chk (decide p) x = x := chk_of (decide_eq_true h)
theorem ix_of {R : Type} {i : Int} {len : Nat} {x : Option R} (h0 : 0 ≤ i) (h1 : i < (len : Int)) : ix i len x = x := by
  unfold ix
  rw [decide_eq_true h0, decide_eq_true h1]
  rfl
theorem ix_nat {R : Type} {i len : Nat} {x : Option R} (h1 : i < len) : ix (i : Int) len x = x := ix_of (by omega) (by omega)
theorem bif_dec {α : Type} {p : Prop} [Decidable p] {x y : α} : (bif decide p then x else y) = if p then x else y := by
  by_cases h : p <;> simp [h]
theorem loopN_succ {X R : Type} (b : X → (X → Option R) → Option R) (m : Nat) (x : X) : loopN b (m + 1) x = b x (loopN b m) := rfl
/-- What holds of a loop: by what is left to go. -/
theorem loopN_ind {X R : Type} {b : X → (X → Option R) → Option R} (μ : X → Nat) (I : X → Prop) (Q : X → Option R → Prop)
    (h : ∀ x J, I x → (∀ y, I y → μ y < μ x → Q y (J y)) → Q x (b x J)) : ∀ n x, I x → μ x < n → Q x (loopN b n x)
  | 0, x, hi, hm => absurd hm (Nat.not_lt_zero _)
  | n + 1, x, hi, hm => h x (loopN b n) hi fun y hy hl => loopN_ind μ I Q h n y hy (by omega)
theorem getD_eq {α : Type} {l : List α} {i : Nat} {d : α} (h : i < l.length) : l.getD i d = l[i] := by
  simp [List.getD, h]
theorem w64_succ {k : Nat} (h : k < 9223372036854775807) : w64 ((k : Int) + 1) = ((k + 1 : Nat) : Int) := by
  rw [w64_id (by omega) (by omega)]
  rfl
theorem take_succ_getD {α : Type} {l : List α} {i : Nat} {d : α} (h : i < l.length) : l.take (i + 1) = l.take i ++ [l.getD i d] := by
  rw [List.take_succ, getD_eq h, List.getElem?_eq_getElem h]
  rfl
theorem drop_getD {α : Type} {l : List α} {i : Nat} {d : α} (h : i < l.length) : l.drop i = l.getD i d :: l.drop (i + 1) := by
  rw [getD_eq h]
  exact List.drop_eq_getElem_cons h
theorem bd_eq {α β : Type} (e : α) (f : α → β) : bd e f = f e := rfl
theorem bd_set {α β : Type} {Q : β → Prop} {F : List α → β} {p : List α} {i : Nat} {x : α} (h : ∀ l : List α, l.length = p.length → Q (F l)) : Q (bd (p.set i x) F) := h _ (by simp)
theorem bd_is {α β : Type} {Q : β → Prop} {F : α → β} {e : α} (h : ∀ v : α, v = e → Q (F v)) : Q (bd e F) := h _ rfl
theorem bd_val {α β : Type} {Q : β → Prop} {F : α → β} {e : α} (h : ∀ v : α, Q (F v)) : Q (bd e F) := h _
theorem chk_q {R : Type} {Q : Option R → Prop} {b : Bool} {x : Option R} (h : b = true) (hx : Q x) : Q (chk b x) := by rw [chk_of h]; exact hx
theorem ix_q {R : Type} {Q : Option R → Prop} {i : Int} {len : Nat} {x : Option R} (h0 : 0 ≤ i) (h1 : i < (len : Int)) (hx : Q x) : Q (ix i len x) := by rw [ix_of h0 h1]; exact hx
/-- A list written from the front. -/
theorem set_take {α : Type} {a : List α} {d : α} {m k : Nat} (h : k < a.length) (hm : m = a.length := by rfl) : (a.take k ++ (List.replicate m d).drop k).set k (a.getD k d) = a.take (k + 1) ++ (List.replicate m d).drop (k + 1) := by
  subst hm
  have h1 : (a.take k).length = k := by simp; omega
  rw [List.set_append_right _ _ (by omega), h1, Nat.sub_self, take_succ_getD h, List.append_assoc]
  congr 1
  rw [List.drop_eq_getElem_cons (by simp; exact h)]
  rfl
end Go.Sm
end

section
set_option linter.unusedSimpArgs false
set_option linter.deprecated false
set_option linter.unusedSectionVars false
set_option linter.unusedVariables false
set_option linter.unusedSimpArgs false
namespace Go.Sm
attribute [local irreducible] bd chk ix loopN
theorem eqIntS_self {n : Nat} (a : List Int) (hl : a.length ≤ 9223372036854775807) (hn : a.length < n) : laws_eqIntS n a a = some true := by
  unfold laws_eqIntS
  simp only [decide_true, Bool.not_true, cond_false]
  refine loopN_ind (fun x => a.length - x.toNat) (fun x => ∃ k : Nat, k ≤ a.length ∧ x = (k : Int)) (fun x r => r = some true) ?_ n _ ⟨0, by omega, rfl⟩ (by simp; omega)
  rintro _ J ⟨k, hk, rfl⟩ ih
  unfold laws_eqIntS_L4
  by_cases h : k < a.length
  · simp only [Int.ofNat_lt, h, decide_true, cond_true, ix_nat h, Bool.not_true, cond_false, bd_eq]
    rw [w64_succ (by omega)]
    exact ih _ ⟨k + 1, h, rfl⟩ (by simp; omega)
  · simp [h]
theorem eqBox_self (n : Nat) (a : SBox) : laws_eqBox n a a = some true := by simp [laws_eqBox, laws_eqBox_k0]
theorem eqSpot_self (n : Nat) (a : SSpot) : laws_eqSpot n a a = some true := by simp [laws_eqSpot]
theorem eqStow_self (n : Nat) (a : SStow) : laws_eqStow n a a = some true := by simp [laws_eqStow, eqBox_self, eqSpot_self]
theorem eqStowS_self {n : Nat} (a : List SStow) (hl : a.length ≤ 9223372036854775807) (hn : a.length < n) : laws_eqStowS n a a = some true := by
  unfold laws_eqStowS
  simp only [decide_true, Bool.not_true, cond_false]
  refine loopN_ind (fun x => a.length - x.toNat) (fun x => ∃ k : Nat, k ≤ a.length ∧ x = (k : Int)) (fun x r => r = some true) ?_ n _ ⟨0, by omega, rfl⟩ (by simp; omega)
  rintro _ J ⟨k, hk, rfl⟩ ih
  unfold laws_eqStowS_L4
  by_cases h : k < a.length
  · simp only [Int.ofNat_lt, h, decide_true, cond_true, ix_nat h, Bool.not_true, cond_false, eqStow_self, Option.bind_some, bd_eq]
    rw [w64_succ (by omega)]
    exact ih _ ⟨k + 1, h, rfl⟩ (by simp; omega)
  · simp [h]
theorem toStow_eq (n : Nat) (a : SStow) : laws_toStow n a = some a := by simp [laws_toStow, laws_toBox, laws_toSpot]
theorem toStowS_eq {n : Nat} (a : List SStow) (hl : a.length ≤ 1048576) (hn : 1048576 < n) : laws_toStowS n a = some a := by
  unfold laws_toStowS
  rw [chk_dec (by omega), chk_dec (by omega), chk_dec (by omega)]
  refine loopN_ind (fun x => a.length - x.1.toNat) (fun x => ∃ k : Nat, k ≤ a.length ∧ x = ((k : Int), a.take k ++ (List.replicate a.length dSStow).drop k)) (fun x r => r = some a) ?_ n _ ⟨0, by omega, by simp⟩ (by simp; omega)
  rintro _ J ⟨k, hk, rfl⟩ ih
  unfold laws_toStowS_L3
  by_cases h : k < a.length
  · have hlen : (a.take k ++ (List.replicate a.length dSStow).drop k).length = a.length := by simp; omega
    simp only [Int.ofNat_lt, h, decide_true, cond_true, ix_nat h, hlen, Int.toNat_natCast, toStow_eq, Option.bind_some, chk_of, bd_eq]
    rw [w64_succ (by omega)]
    exact ih _ ⟨k + 1, h, by rw [set_take h]⟩ (by simp; omega)
  · have : k = a.length := by omega
    subst this
    simp
theorem szBox_ok {n : Nat} (a : SBox) {left : Int} (h : wfSBox a) (hl : 0 ≤ left) (hl' : left ≤ 1048576) : ∃ r, laws_szBox n a left = some r ∧ r ≤ left := by
  unfold laws_szBox
  obtain ⟨h1, _⟩ := h
  rw [w64_id (by omega) (by omega), bd_eq]
  cases decide (left - (a.Name.size : Int) < 0) with
  | true => exact ⟨-1, rfl, by omega⟩
  | false => exact ⟨_, rfl, by omega⟩
theorem szStow_ok {n : Nat} (a : SStow) {left : Int} (h : wfSStow a) (hl : 0 ≤ left) (hl' : left ≤ 1048576) : ∃ r, laws_szStow n a left = some r ∧ r ≤ left := by
  unfold laws_szStow
  obtain ⟨r, h1, h2⟩ := szBox_ok (n := n) a.Box h.1 hl hl'
  rw [h1]
  simp only [Option.bind_some]
  cases decide (r < 0) with
  | true => exact ⟨-1, rfl, by omega⟩
  | false => exact ⟨_, rfl, by omega⟩
theorem szStowS_ok {n : Nat} (a : List SStow) {left : Int} (h : a.length ≤ 9223372036854775807 ∧ ∀ y ∈ a, wfSStow y) (hl : 0 ≤ left) (hl' : left ≤ 1048576) (hn : 1048576 < n) :
    ∃ r, laws_szStowS n a left = some r ∧ r ≤ left ∧ (0 ≤ r → (a.length : Int) ≤ left) := by
  unfold laws_szStowS
  obtain ⟨h0, h1⟩ := h
  rw [w64_id (by omega) (by omega), bd_eq, bif_dec]
  split
  · exact ⟨-1, rfl, by omega, by omega⟩
  · refine loopN_ind (fun x => a.length - x.2.toNat) (fun x => ∃ (k : Nat) (l : Int), k ≤ a.length ∧ x = (l, (k : Int)) ∧ 0 ≤ l ∧ l ≤ left - a.length) (fun x r => ∃ r', r = some r' ∧ r' ≤ left ∧ (0 ≤ r' → (a.length : Int) ≤ left)) ?_ n _ ⟨0, _, by omega, rfl, by omega, by omega⟩ (by simp; omega)
    rintro _ J ⟨k, l, hk, rfl, hl1, hl2⟩ ih
    unfold laws_szStowS_L5
    by_cases h : k < a.length
    · have hmem : a.getD k dSStow ∈ a := by rw [getD_eq h]; exact List.getElem_mem h
      obtain ⟨r, hr1, hr2⟩ := szStow_ok (n := n) (a.getD k dSStow) (h1 _ hmem) hl1 (by omega)
      simp only [Int.ofNat_lt, h, decide_true, cond_true, ix_nat h, Int.toNat_natCast, hr1, Option.bind_some, bd_eq]
      rw [bif_dec]
      split
      · exact ⟨-1, rfl, by omega, by omega⟩
      · rw [w64_succ (by omega)]
        exact ih _ ⟨k + 1, r, h, rfl, by omega, by omega⟩ (by simp; omega)
    · exact ⟨l, by simp [h], by omega, by omega⟩
theorem markIntS_ok {n : Nat} (a : List Int) (hl : a.length ≤ 1048576) (hn : 1048576 < n) : ∃ a' : List Int, laws_markIntS n a 1 = some (((a.length + 1 : Nat) : Int), a') ∧ a'.length = a.length ∧ ∀ i, i < a.length → a'.getD i 0 = ((i + 1 : Nat) : Int) := by
  unfold laws_markIntS
  refine loopN_ind (fun x => a.length - x.2.1.toNat) (fun x => ∃ (k : Nat) (p : List Int), k ≤ a.length ∧ x = (((k + 1 : Nat) : Int), (k : Int), p) ∧ p.length = a.length ∧ ∀ i, i < k → p.getD i 0 = ((i + 1 : Nat) : Int))
    (fun x r => ∃ a' : List Int, r = some (((a.length + 1 : Nat) : Int), a') ∧ a'.length = a.length ∧ ∀ i, i < a.length → a'.getD i 0 = ((i + 1 : Nat) : Int)) ?_ n _ ⟨0, a, by omega, rfl, rfl, by omega⟩ (by simp; omega)
  rintro _ J ⟨k, p, hk, rfl, hp, hi⟩ ih
  unfold laws_markIntS_L2
  by_cases h : k < a.length
  · have h' : k < p.length := by omega
    simp only [Int.ofNat_lt, h', decide_true, cond_true, ix_nat h', Int.toNat_natCast, chk_of, bd_eq]
    rw [w64_succ (by omega), w64_succ (by omega)]
    refine ih _ ⟨k + 1, _, h, rfl, by simpa using hp, ?_⟩ (by simp; omega)
    intro i hi'
    by_cases e : i = k
    · subst e
      simp [List.getD, h']
    · have := hi i (by omega)
      simpa [List.getD, List.getElem?_set, Ne.symm e] using this
  · have h' : ¬ k < p.length := by omega
    simp only [Int.ofNat_lt, h', decide_false, cond_false]
    have : k = a.length := by omega
    subst this
    exact ⟨p, rfl, hp, hi⟩
theorem heldIntS_ok {n : Nat} (a : List Int) (hl : a.length ≤ 1048576) (hn : 1048576 < n) (ha : ∀ i, i < a.length → a.getD i 0 = ((i + 1 : Nat) : Int)) : laws_heldIntS n a 1 = some ((a.length + 1 : Nat) : Int) := by
  unfold laws_heldIntS
  refine loopN_ind (fun x => a.length - x.2.toNat) (fun x => ∃ (k : Nat), k ≤ a.length ∧ x = (((k + 1 : Nat) : Int), (k : Int)))
    (fun x r => r = some ((a.length + 1 : Nat) : Int)) ?_ n _ ⟨0, by omega, rfl⟩ (by simp; omega)
  rintro _ J ⟨k, hk, rfl⟩ ih
  unfold laws_heldIntS_L2
  by_cases h : k < a.length
  · simp only [Int.ofNat_lt, h, decide_true, cond_true, ix_nat h, Int.toNat_natCast, ha k h, Bool.not_true, cond_false, bd_eq]
    rw [w64_succ (by omega), w64_succ (by omega)]
    exact ih _ ⟨k + 1, h, rfl⟩ (by simp; omega)
  · have : k = a.length := by omega
    subst this
    simp
theorem markText_ok {n : Nat} (k : Int) (hk : k ≤ 1000000000) (hn : 1000000000 < n) : ∃ t, laws_markText n k = some t := by
  unfold laws_markText
  rw [bif_dec]
  split
  · exact ⟨_, rfl⟩
  · refine loopN_ind (fun x => x.1.toNat) (fun x => 0 ≤ x.1 ∧ x.1 + (x.2.size : Int) ≤ 1000000000) (fun x r => ∃ t, r = some t) ?_ n _ ⟨by omega, by show k + ((str []).size : Int) ≤ _; simp [str, ByteArray.size]; omega⟩ (by simp; omega)
    rintro ⟨k, out⟩ J ⟨h0, h1⟩ ih
    unfold laws_markText_L4
    dsimp only at h0 h1 ⊢
    have e1 : ∀ l : List Int, (bstr l).size = l.length := fun l => by simp [bstr, ByteArray.size]
    have e2 : (str [109]).size = 1 := rfl
    have e3 : k.tdiv 10 = k / 10 := Int.tdiv_eq_ediv_of_nonneg h0
    simp only [bd_eq]
    rw [bif_dec, e3]
    split
    · rw [e1, chk_dec (by simp; omega), w64_id (x := k / 10) (by omega) (by omega)]
      refine ih _ ⟨by dsimp only; omega, ?_⟩ (by dsimp only; omega)
      rw [ByteArray.size_append, e1]
      simp
      omega
    · rw [e2, chk_dec (by omega)]
      exact ⟨_, rfl⟩
def MarkQ (r : Option (Int × List SStow)) : Prop := ∃ k' a', r = some (k', a') ∧ 0 ≤ k'
theorem markStowS_ok {n : Nat} (a : List SStow) (hl : a.length ≤ 1048576) (hn : 1000000000 < n) : MarkQ (laws_markStowS n a 1) := by
  unfold laws_markStowS
  refine loopN_ind (fun x => a.length - x.2.1.toNat) (fun x => ∃ (k : Nat) (p : List SStow), k ≤ a.length ∧ x = (((9 * k + 1 : Nat) : Int), (k : Int), p) ∧ p.length = a.length)
    (fun x r => MarkQ r) ?_ n _ ⟨0, a, by omega, rfl, rfl⟩ (by simp; omega)
  rintro _ J ⟨k, p, hk, rfl, hp⟩ ih
  unfold laws_markStowS_L2
  by_cases h : k < a.length
  · have h' : k < p.length := by omega
    simp only [Int.ofNat_lt, h', decide_true, cond_true]
    unfold laws_markStowS_k0
    obtain ⟨t, ht⟩ := markText_ok (n := n) ((9 * k + 1 : Nat) : Int) (by omega) hn
    simp only [ht, Option.bind_some, Int.toNat_natCast]
    repeat (first | refine ix_q (Q := MarkQ) (by omega) (by omega) ?_ | refine chk_q (Q := MarkQ) (decide_eq_true (by omega)) ?_ | refine bd_set (Q := MarkQ) fun l hl => ?_ | (refine bd_is (α := Int) (Q := MarkQ) fun v hv => ?_; try simp (disch := omega) only [w64_id] at hv) | refine bd_val (Q := MarkQ) fun e => ?_)
    simp (disch := omega) only [w64_id]
    exact ih _ ⟨k + 1, _, h, Prod.ext (by dsimp only; omega) (Prod.ext (by dsimp only; omega) rfl), by omega⟩ (by dsimp only; omega)
  · have h' : ¬ k < p.length := by omega
    simp only [Int.ofNat_lt, h', decide_false, cond_false]
    exact ⟨_, _, rfl, by omega⟩
end Go.Sm
end

section
set_option linter.unusedSimpArgs false
set_option linter.deprecated false
set_option linter.unusedSectionVars false
set_option linter.unusedVariables false
set_option linter.unusedSimpArgs false
namespace Go.Sm
attribute [local irreducible] bd chk ix loopN
/-! ### Shifts -/
def spEq (b s : SSpot) : Bool := (decide (b.Bay = s.Bay)) && ((decide (b.Row = s.Row)) && (decide (b.Tier = s.Tier)))
theorem spEq_self (s : SSpot) : spEq s s = true := by simp [spEq]
def dupAt (l : List SStow) (i : Nat) : Bool := (l.take i).any fun b => spEq b.Spot (l.getD i dSStow).Spot
def liftBy (port : Int) (a b : SStow) : Bool := (decide (a.Box.To > port)) && ((decide (b.Box.To = port)) && ((decide (b.Spot.Bay = a.Spot.Bay)) && ((decide (b.Spot.Row = a.Spot.Row)) && (decide (b.Spot.Tier < a.Spot.Tier)))))
def liftAt (l : List SStow) (port : Int) (i : Nat) : Bool := l.any (liftBy port (l.getD i dSStow))
def lifts (l : List SStow) (port : Int) (k : Nat) : List Int := ((List.range k).filter (liftAt l port)).map fun (i : Nat) => (i : Int)
theorem lifts_succ (l : List SStow) (port : Int) (k : Nat) : lifts l port (k + 1) = if liftAt l port k = true then lifts l port k ++ [(k : Int)] else lifts l port k := by
  unfold lifts
  rw [List.range_succ, List.filter_append]
  by_cases h : liftAt l port k = true <;> simp [h]
theorem lifts_len (l : List SStow) (port : Int) (k : Nat) : (lifts l port k).length ≤ k := by
  unfold lifts
  rw [List.length_map]
  have := List.length_filter_le (liftAt l port) (List.range k)
  simpa using this
def noDup (l : List SStow) : Prop := ∀ i, i < l.length → dupAt l i = false
instance (l : List SStow) : Decidable (noDup l) := Nat.decidableBallLT _ _
def shiftsR (l : List SStow) (port : Int) : List Int × Bool :=
  if l.length ≤ 40 ∧ 0 ≤ port ∧ port ≤ 19 ∧ noDup l then (lifts l port l.length, true) else ([], false)
theorem any_take_succ {α : Type} {l : List α} {k : Nat} {d : α} (f : α → Bool) (h : k < l.length) : (l.take (k + 1)).any f = ((l.take k).any f || f (l.getD k d)) := by
  rw [take_succ_getD (d := d) h, List.any_append]
  simp
theorem l12At_eq {n : Nat} (l : List SStow) (i : Nat) (hi : i < l.length) (hl : l.length ≤ 40) (hn : 1048576 < n) : ∃ r : Int, spec_l12At n l (l.getD i dSStow).Spot = some r ∧ (decide (r = (i : Int)) = !(dupAt l i)) := by
  unfold spec_l12At
  refine loopN_ind (fun x => l.length - x.toNat) (fun x => ∃ k : Nat, k ≤ i ∧ x = (k : Int) ∧ (l.take k).any (fun b => spEq b.Spot (l.getD i dSStow).Spot) = false)
    (fun x r => ∃ r' : Int, r = some r' ∧ (decide (r' = (i : Int)) = !(dupAt l i))) ?_ n _ ⟨0, by omega, rfl, rfl⟩ (by simp; omega)
  rintro _ J ⟨k, hk, rfl, ha⟩ ih
  unfold spec_l12At_L2
  have h : k < l.length := by omega
  simp only [Int.ofNat_lt, h, decide_true, cond_true, ix_nat h, Int.toNat_natCast, bd_eq]
  rw [← spEq]
  cases he : spEq (l.getD k dSStow).Spot (l.getD i dSStow).Spot with
  | true =>
    refine ⟨k, rfl, ?_⟩
    by_cases e : k = i
    · subst e
      rw [dupAt, ha]
      simp
    · have : dupAt l i = true := by
        unfold dupAt
        rw [List.any_eq_true]
        refine ⟨l.getD k dSStow, ?_, he⟩
        rw [List.mem_iff_getElem]
        exact ⟨k, by simp; omega, by rw [List.getElem_take, getD_eq h]⟩
      rw [this]
      simp
      omega
  | false =>
    have e : k ≠ i := fun e => by subst e; rw [spEq_self] at he; cases he
    rw [cond_false, w64_succ (by omega)]
    exact ih _ ⟨k + 1, by omega, rfl, by rw [any_take_succ _ h, ha, he]; rfl⟩ (by simp; omega)
theorem lift_spec (n : Nat) (kx : Bool → Option (List Int × Bool)) (l : List SStow) (port : Int) (i out) (a : SStow) (hl : l.length ≤ 40) (hn : 1048576 < n) :
    loopN (fun (x : Bool × Int) J' => spec_Shifts_L15 n kx (fun o k => J' (o, k)) l port i x.1 x.2 out a) n (false, (0 : Int)) =
      kx (l.any fun b => (decide (b.Box.To = port)) && ((decide (b.Spot.Bay = a.Spot.Bay)) && ((decide (b.Spot.Row = a.Spot.Row)) && (decide (b.Spot.Tier < a.Spot.Tier))))) := by
  let g : SStow → Bool := fun b => (decide (b.Box.To = port)) && ((decide (b.Spot.Bay = a.Spot.Bay)) && ((decide (b.Spot.Row = a.Spot.Row)) && (decide (b.Spot.Tier < a.Spot.Tier))))
  refine loopN_ind (fun x => l.length - x.2.toNat) (fun x => ∃ k : Nat, k ≤ l.length ∧ x = ((l.take k).any g, (k : Int))) (fun x r => r = kx (l.any g)) ?_ n _ ⟨0, by omega, rfl⟩ (by simp; omega)
  rintro _ J ⟨k, hk, rfl⟩ ih
  unfold spec_Shifts_L15 spec_Shifts_k0
  by_cases h : k < l.length
  · simp only [Int.ofNat_lt, h, decide_true, cond_true, ix_nat h, Int.toNat_natCast, bd_eq]
    rw [w64_succ (by omega)]
    have key := ih ((l.take (k + 1)).any g, ((k + 1 : Nat) : Int)) ⟨k + 1, h, rfl⟩ (by simp; omega)
    rw [any_take_succ (d := dSStow) _ h] at key
    rw [← key]
    cases (l.take k).any g with
    | true => rfl
    | false =>
      simp only [cond_false, Bool.false_or, g]
      cases decide ((l.getD k dSStow).Box.To = port) <;> cases decide ((l.getD k dSStow).Spot.Bay = a.Spot.Bay) <;> cases decide ((l.getD k dSStow).Spot.Row = a.Spot.Row) <;> rfl
  · have : k = l.length := by omega
    subst this
    simp [g]
theorem in_spec (n : Nat) (p : Int) : spec_l1In n p 0 19 = some (decide (0 ≤ p ∧ p ≤ 19)) := by
  unfold spec_l1In
  by_cases h0 : 0 ≤ p <;> by_cases h1 : p ≤ 19 <;> simp [h0, h1]
theorem liftAt_eq (l : List SStow) (port : Int) (i : Nat) : liftAt l port i = ((decide ((l.getD i dSStow).Box.To > port)) && l.any fun b => (decide (b.Box.To = port)) && ((decide (b.Spot.Bay = (l.getD i dSStow).Spot.Bay)) && ((decide (b.Spot.Row = (l.getD i dSStow).Spot.Row)) && (decide (b.Spot.Tier < (l.getD i dSStow).Spot.Tier))))) := by
  unfold liftAt liftBy
  cases decide ((l.getD i dSStow).Box.To > port) with
  | true => simp
  | false => simp
theorem spec_Shifts_eq {n : Nat} (l : List SStow) (port : Int) (hn : 1048576 < n) : spec_Shifts n l port = some (shiftsR l port) := by
  unfold spec_Shifts
  rw [bif_dec]
  split
  · rw [shiftsR, if_neg (by omega)]
  · rename_i hl
    have hl : l.length ≤ 40 := by omega
    rw [in_spec, Option.bind_some]
    by_cases hp : 0 ≤ port ∧ port ≤ 19
    · rw [decide_eq_true hp]
      simp only [Bool.not_true, cond_false]
      unfold spec_Shifts_k2
      have loop2 : loopN (fun (x : Int × List Int) J' => spec_Shifts_L10 n (fun out57 => some (out57, true)) (fun i58 out59 => J' (i58, out59)) l port x.1 x.2) n ((0 : Int), []) = some (lifts l port l.length, true) := by
        refine loopN_ind (fun x => l.length - x.1.toNat) (fun x => ∃ k : Nat, k ≤ l.length ∧ x = ((k : Int), lifts l port k)) (fun x r => r = some (lifts l port l.length, true)) ?_ n _ ⟨0, by omega, rfl⟩ (by simp; omega)
        rintro _ J ⟨k, hk, rfl⟩ ih
        unfold spec_Shifts_L10 spec_Shifts_k1
        by_cases h : k < l.length
        · simp only [Int.ofNat_lt, h, decide_true, cond_true, ix_nat h, Int.toNat_natCast, bd_eq]
          rw [lift_spec n _ l port _ _ _ hl hn, w64_succ (by omega)]
          have key := ih (((k + 1 : Nat) : Int), lifts l port (k + 1)) ⟨k + 1, h, rfl⟩ (by simp; omega)
          rw [lifts_succ, liftAt_eq] at key
          have hlen := lifts_len l port k
          rw [chk_dec (by simp; omega)]
          revert key
          cases (l.any fun b => (decide (b.Box.To = port)) && ((decide (b.Spot.Bay = (l.getD k dSStow).Spot.Bay)) && ((decide (b.Spot.Row = (l.getD k dSStow).Spot.Row)) && (decide (b.Spot.Tier < (l.getD k dSStow).Spot.Tier))))) <;>
            cases decide ((l.getD k dSStow).Box.To > port) <;> exact id
        · have : k = l.length := by omega
          subst this
          simp
      rw [loop2]
      refine loopN_ind (fun x => l.length - x.toNat) (fun x => ∃ k : Nat, k ≤ l.length ∧ x = (k : Int) ∧ ∀ i, i < k → dupAt l i = false) (fun x r => r = some (shiftsR l port)) ?_ n _ ⟨0, by omega, rfl, by omega⟩ (by simp; omega)
      rintro _ J ⟨k, hk, rfl, hd⟩ ih
      unfold spec_Shifts_L5
      by_cases h : k < l.length
      · simp only [Int.ofNat_lt, h, decide_true, cond_true, ix_nat h, Int.toNat_natCast, bd_eq]
        obtain ⟨r, hr1, hr2⟩ := l12At_eq (n := n) l k h hl hn
        rw [hr1, Option.bind_some, hr2]
        cases hdk : dupAt l k with
        | true =>
          simp only [Bool.not_true, Bool.not_false, cond_true]
          rw [shiftsR, if_neg]
          intro hh
          have := hh.2.2.2 k h
          rw [hdk] at this
          cases this
        | false =>
          simp only [Bool.not_true, Bool.not_false, cond_false]
          rw [w64_succ (by omega)]
          refine ih _ ⟨k + 1, h, rfl, fun i hi => ?_⟩ (by simp; omega)
          by_cases e : i = k
          · rw [e, hdk]
          · exact hd i (by omega)
      · have : k = l.length := by omega
        subst this
        simp only [Int.lt_irrefl, decide_false, cond_false]
        rw [shiftsR, if_pos ⟨hl, hp.1, hp.2, hd⟩]
    · rw [decide_eq_false hp]
      simp only [Bool.not_false, cond_true]
      rw [shiftsR, if_neg (by omega)]
theorem over_eq (n : Nat) (a b : SSpot) : impl_over n a b = some ((decide (a.Bay = b.Bay)) && ((decide (a.Row = b.Row)) && (decide (a.Tier > b.Tier)))) := by
  unfold impl_over
  cases decide (a.Bay = b.Bay) <;> cases decide (a.Row = b.Row) <;> rfl
theorem own_int_eq (n : Nat) (l : List Int) (h : l.length ≤ 1048576) : impl_own_int n l = some l := by
  unfold impl_own_int
  rw [chk_dec (by omega), chk_dec (by omega), chk_dec (by omega)]
theorem portOk_eq (n : Nat) (p : Int) : impl_portOk n p = some (decide (0 ≤ p ∧ p ≤ 19)) := by
  unfold impl_portOk impl_in
  by_cases h0 : 0 ≤ p <;> by_cases h1 : p ≤ 19 <;> simp [h0, h1]
theorem liftBy_eq (port : Int) (a b : SStow) : liftBy port a b = ((decide (a.Box.To > port)) && ((decide (b.Box.To = port)) && ((decide (a.Spot.Bay = b.Spot.Bay)) && ((decide (a.Spot.Row = b.Spot.Row)) && (decide (a.Spot.Tier > b.Spot.Tier)))))) := by
  unfold liftBy
  rw [decide_eq_decide.2 (⟨Eq.symm, Eq.symm⟩ : b.Spot.Bay = a.Spot.Bay ↔ a.Spot.Bay = b.Spot.Bay), decide_eq_decide.2 (⟨Eq.symm, Eq.symm⟩ : b.Spot.Row = a.Spot.Row ↔ a.Spot.Row = b.Spot.Row)]
theorem lift_impl (n : Nat) (kx : Bool → Option (List Int × Bool)) (kr : Bool → List Int → Option (List Int × Bool)) (l : List SStow) (port : Int) (i : Nat) (t17 out) (hi : i < l.length) (hl : l.length ≤ 40) (hn : 1048576 < n) :
    loopN (fun (x : Bool × Int) J' => impl_Shifts_L9 n kx (fun t57 t58 => kr t57 t58) (fun o k => J' (o, k)) l port (i : Int) x.1 l t17 (i : Int) l (l.length : Int) x.2 out (l.getD i dSStow)) n (false, (0 : Int)) =
      if dupAt l i = true then kr false [] else kx (liftAt l port i) := by
  have hdup : dupAt l i = (l.take i).any fun b => spEq b.Spot (l.getD i dSStow).Spot := rfl
  refine loopN_ind (fun x => l.length - x.2.toNat) (fun x => ∃ k : Nat, k ≤ l.length ∧ x = ((l.take k).any (liftBy port (l.getD i dSStow)), (k : Int)) ∧ ((l.take k).take i).any (fun b => spEq b.Spot (l.getD i dSStow).Spot) = false)
    (fun x r => r = if dupAt l i = true then kr false [] else kx (liftAt l port i)) ?_ n _ ⟨0, by omega, rfl, by simp⟩ (by simp; omega)
  rintro _ J ⟨k, hk, rfl, hd⟩ ih
  unfold impl_Shifts_L9
  by_cases h : k < l.length
  · have hcore : ∀ e, e = l.getD k dSStow → (((l.take (k + 1)).take i).any (fun b => spEq b.Spot (l.getD i dSStow).Spot) = false) →
        impl_Shifts_k0 n kx (fun t57 t58 => kr t57 t58) (fun o k => J (o, k)) l port (i : Int) ((l.take k).any (liftBy port (l.getD i dSStow))) l t17 (i : Int) l (l.length : Int) (k : Int) out (l.getD i dSStow) e = if dupAt l i = true then kr false [] else kx (liftAt l port i) := by
      rintro _ rfl hd'
      have key := ih ((l.take (k + 1)).any (liftBy port (l.getD i dSStow)), ((k + 1 : Nat) : Int)) ⟨k + 1, h, rfl, hd'⟩ (by simp; omega)
      rw [any_take_succ (d := dSStow) _ h, liftBy_eq] at key
      rw [← key]
      unfold impl_Shifts_k0
      rw [w64_succ (by omega), over_eq]
      cases (l.take k).any (liftBy port (l.getD i dSStow)) with
      | true => rfl
      | false =>
        cases decide ((l.getD i dSStow).Box.To > port) <;> cases decide ((l.getD k dSStow).Box.To = port) <;> rfl
    simp only [Int.ofNat_lt, h, decide_true, cond_true]
    unfold impl_Shifts_k1
    simp only [ix_nat h, Int.toNat_natCast, bd_eq, Int.ofNat_lt]
    by_cases hki : k < i
    · simp only [hki, decide_true, cond_true]
      rw [← spEq]
      have e1 : (l.take k).take i = l.take k := by rw [List.take_take, Nat.min_eq_right (by omega)]
      have e2 : (l.take (k + 1)).take i = l.take (k + 1) := by rw [List.take_take, Nat.min_eq_right (by omega)]
      cases he : spEq (l.getD k dSStow).Spot (l.getD i dSStow).Spot with
      | true =>
        have : dupAt l i = true := by
          unfold dupAt
          rw [List.any_eq_true]
          refine ⟨l.getD k dSStow, ?_, he⟩
          rw [List.mem_iff_getElem]
          exact ⟨k, by simp; omega, by rw [List.getElem_take, getD_eq h]⟩
        rw [if_pos this]
        rfl
      | false =>
        rw [cond_false]
        refine hcore _ rfl ?_
        rw [e2, any_take_succ (d := dSStow) _ h, he, ← e1, hd]
        rfl
    · simp only [hki, decide_false, cond_false]
      refine hcore _ rfl ?_
      rw [List.take_take, Nat.min_eq_left (by omega)] at hd ⊢
      exact hd
  · have : k = l.length := by omega
    subst this
    rw [List.take_length] at hd ⊢
    simp only [Int.lt_irrefl, decide_false, cond_false]
    rw [if_neg (by rw [hdup, hd]; simp)]
    rfl
theorem impl_Shifts_eq {n : Nat} (l : List SStow) (port : Int) (hn : 1048576 < n) : impl_Shifts n l port = some (shiftsR l port) := by
  unfold impl_Shifts
  rw [bif_dec]
  split
  · rw [shiftsR, if_neg (by omega)]
  · rename_i hl
    have hl : l.length ≤ 40 := by omega
    rw [portOk_eq, Option.bind_some]
    unfold impl_Shifts_k3
    by_cases hp : 0 ≤ port ∧ port ≤ 19
    · rw [decide_eq_true hp]
      simp only [Bool.not_true, cond_false]
      refine loopN_ind (fun x => l.length - x.1.toNat) (fun x => ∃ k : Nat, k ≤ l.length ∧ x = ((k : Int), lifts l port k) ∧ ∀ i, i < k → dupAt l i = false) (fun x r => r = some (shiftsR l port)) ?_ n _ ⟨0, by omega, rfl, by omega⟩ (by simp; omega)
      rintro _ J ⟨k, hk, rfl, hd⟩ ih
      unfold impl_Shifts_L5
      by_cases h : k < l.length
      · simp only [Int.ofNat_lt, h, decide_true, cond_true]
        unfold impl_Shifts_k2
        simp only [ix_nat h, Int.toNat_natCast, bd_eq]
        rw [lift_impl n _ (fun t69 t70 => some (t70, t69)) l port k _ _ h hl hn]
        cases hdk : dupAt l k with
        | true =>
          rw [if_pos rfl, shiftsR, if_neg]
          intro hh
          have := hh.2.2.2 k h
          rw [hdk] at this
          cases this
        | false =>
          rw [if_neg (by simp), w64_succ (by omega)]
          have key := ih (((k + 1 : Nat) : Int), lifts l port (k + 1)) ⟨k + 1, h, rfl, fun i hi => by
            by_cases e : i = k
            · rw [e, hdk]
            · exact hd i (by omega)⟩ (by simp; omega)
          have hlen := lifts_len l port k
          rw [lifts_succ] at key
          rw [chk_dec (by simp; omega)]
          revert key
          cases liftAt l port k <;> exact id
      · have : k = l.length := by omega
        subst this
        have hlen := lifts_len l port l.length
        simp only [Int.lt_irrefl, decide_false, cond_false]
        rw [own_int_eq n _ (by omega), shiftsR, if_pos ⟨hl, hp.1, hp.2, hd⟩]
        rfl
    · rw [decide_eq_false hp]
      simp only [Bool.not_false, cond_true]
      rw [shiftsR, if_neg (by omega)]
theorem shiftsR_len (l : List SStow) (port : Int) : (shiftsR l port).1.length ≤ 40 := by
  unfold shiftsR
  split
  · rename_i h
    have := lifts_len l port l.length
    exact Nat.le_trans this h.1
  · exact Nat.zero_le _
theorem laws_FnExactShifts_true (aList0 : List SStow) (aPort1 : Int) (h0 : (aList0.length ≤ 9223372036854775807 ∧ ∀ y ∈ aList0, wfSStow y)) (h1 : rng (-9223372036854775808) 9223372036854775807 aPort1) : ∃ n, laws_FnExactShifts n aList0 aPort1 = some true := by
  refine ⟨1000000001, ?_⟩
  generalize hN : (1000000001 : Nat) = n
  have hn : 1000000000 < n := by omega
  unfold laws_FnExactShifts
  obtain ⟨r, hr1, hr2, hr3⟩ := szStowS_ok (n := n) aList0 (left := 1048576) h0 (by omega) (by omega) (by omega)
  rw [hr1, Option.bind_some, bif_dec]
  split
  · rfl
  · have hl : aList0.length ≤ 1048576 := by have := hr3 (by omega); omega
    have hs := shiftsR_len aList0 aPort1
    obtain ⟨a', hm1, hm2, hm3⟩ := markIntS_ok (n := n) (shiftsR aList0 aPort1).1 (by omega) (by omega)
    obtain ⟨k', l', hk1, hk2⟩ := markStowS_ok (n := n) aList0 hl hn
    have hh := heldIntS_ok (n := n) a' (by omega) (by omega) (by rw [hm2]; exact hm3)
    rw [hm2] at hh
    have e1 : ∀ b : Bool, (b == b) = true := fun b => by cases b <;> rfl
    have e2 : decide ((((shiftsR aList0 aPort1).1.length + 1 : Nat) : Int) < 0) = false := decide_eq_false (by omega)
    have e3 : decide (k' < 0) = false := decide_eq_false (by omega)
    have e4 : ∀ x : Int, decide (x = x) = true := fun x => decide_eq_true rfl
    unfold laws_FnExactShifts_k4 laws_FnExactShifts_k3 laws_FnExactShifts_k2 laws_FnExactShifts_k1
    simp only [toStowS_eq aList0 hl (show 1048576 < n by omega), spec_Shifts_eq aList0 aPort1 (show 1048576 < n by omega), impl_Shifts_eq aList0 aPort1 (show 1048576 < n by omega), Option.bind_some,
      eqIntS_self (shiftsR aList0 aPort1).1 (show _ ≤ 9223372036854775807 by omega) (show _ < n by omega), eqStowS_self aList0 (show _ ≤ 9223372036854775807 by omega) (show _ < n by omega), hm1, hk1, hh, e1, e2, e3, decide_true, Bool.not_true, cond_false]
end Go.Sm
end
