import Derived.Test.YtojjoinjabogbaaEngA
/- The functions as plain functions over data, and that the law answers true for all arguments. Settle: the written-out radios and the built ones end alike, with the same coins used, for every list and every coins. -/
section
set_option linter.unusedSimpArgs false
set_option linter.deprecated false
set_option linter.unusedSectionVars false
set_option linter.unusedVariables false
namespace Go.Sm
structure SRadio where
  Id : Int
  Slot : Int
  Hears : List Int
def dSRadio : SRadio := ⟨(0 : Int), (0 : Int), []⟩
def laws_szIntS (n : Nat) (a0 : List Int) (left1 : Int) : Option Int :=
  (bd (w64 (left1 - (a0.length : Int))) fun (v1 : Int) => (bif (decide (v1 < (0 : Int))) then some ((-1 : Int)) else some (v1)))
def laws_szRadio (n : Nat) (a0 : SRadio) (left1 : Int) : Option Int :=
  (laws_szIntS n a0.Hears left1).bind fun r1 => (bif (decide (r1 < (0 : Int))) then some ((-1 : Int)) else some (r1))
def laws_szRadioS_L5 {R : Type} (n : Nat) (kx0 : Int → Option R) (kxr : Int → Option R) (J : Int → Int → Option R) (a3 : List SRadio) (left4 : Int) (i5 : Int) : Option R :=
  (bif (decide (i5 < (a3.length : Int))) then ix i5 a3.length ((bd (a3.getD i5.toNat dSRadio) fun (e12 : SRadio) => (laws_szRadio n e12 left4).bind fun r13 => (bif (decide (r13 < (0 : Int))) then kxr (-1 : Int) else J r13 (w64 (i5 + (1 : Int)))))) else kx0 left4)
def laws_szRadioS (n : Nat) (a0 : List SRadio) (left1 : Int) : Option Int :=
  (bd (w64 (left1 - (a0.length : Int))) fun (v1 : Int) => (bif (decide (v1 < (0 : Int))) then some ((-1 : Int)) else loopN (fun (x : Int × Int) J' => laws_szRadioS_L5 n (fun left20 => some (left20)) (fun t21 => some (t21)) (fun left22 i23 => J' (left22, i23)) a0 x.1 x.2) n (v1, (0 : Int))))
def laws_toIntS_L3 {R : Type} (n : Nat) (kx0 : List Int → Option R) (J : Int → List Int → Option R) (a1 : List Int) (i2 : Int) (out3 : List Int) : Option R :=
  (bif (decide (i2 < (a1.length : Int))) then ix i2 a1.length (ix i2 out3.length (chk (decide (i2.toNat < out3.length)) ((bd (out3.set i2.toNat (a1.getD i2.toNat (0 : Int))) fun (l7 : List Int) => J (w64 (i2 + (1 : Int))) l7)))) else kx0 out3)
def laws_toIntS (n : Nat) (a0 : List Int) : Option (List Int) :=
  chk (decide ((0 : Int) ≤ (a0.length : Int))) (chk (decide ((a0.length : Int) ≤ (a0.length : Int))) (chk (decide ((a0.length : Int) ≤ 9223372036854775807 ∧ (a0.length : Int) * (8 : Int) ≤ 281474976710656)) (loopN (fun (x : Int × List Int) J' => laws_toIntS_L3 n (fun out8 => some (out8)) (fun i9 out10 => J' (i9, out10)) a0 x.1 x.2) n ((0 : Int), (List.replicate (a0.length : Int).toNat (0 : Int))))))
def laws_toRadio (n : Nat) (a0 : SRadio) : Option SRadio :=
  (laws_toIntS n a0.Hears).bind fun r1 => some ((⟨a0.Id, a0.Slot, r1⟩ : SRadio))
def laws_toRadioS_L3 {R : Type} (n : Nat) (kx0 : List SRadio → Option R) (J : Int → List SRadio → Option R) (a1 : List SRadio) (i2 : Int) (out3 : List SRadio) : Option R :=
  (bif (decide (i2 < (a1.length : Int))) then ix i2 a1.length ((bd (a1.getD i2.toNat dSRadio) fun (e8 : SRadio) => (laws_toRadio n e8).bind fun r9 => ix i2 out3.length (chk (decide (i2.toNat < out3.length)) (J (w64 (i2 + (1 : Int))) (out3.set i2.toNat r9))))) else kx0 out3)
def laws_toRadioS (n : Nat) (a0 : List SRadio) : Option (List SRadio) :=
  chk (decide ((0 : Int) ≤ (a0.length : Int))) (chk (decide ((a0.length : Int) ≤ (a0.length : Int))) (chk (decide ((a0.length : Int) ≤ 9223372036854775807 ∧ (a0.length : Int) * (40 : Int) ≤ 281474976710656)) (loopN (fun (x : Int × List SRadio) J' => laws_toRadioS_L3 n (fun out10 => some (out10)) (fun i11 out12 => J' (i11, out12)) a0 x.1 x.2) n ((0 : Int), (List.replicate (a0.length : Int).toNat dSRadio)))))
def spec_l1In (n : Nat) (x0 : Int) (a1 : Int) (b2 : Int) : Option Bool :=
  (bif (decide (x0 ≥ a1)) then some ((decide (x0 ≤ b2))) else some (false))
def spec_l9Has_L2 {R : Type} (n : Nat) (kx0 : Option R) (kxr : Bool → Option R) (J : Int → Option R) (list1 : List Int) (x2 : Int) (i3 : Int) : Option R :=
  (bif (decide (i3 < (list1.length : Int))) then ix i3 list1.length ((bif (decide ((list1.getD i3.toNat (0 : Int)) = x2)) then kxr true else J (w64 (i3 + (1 : Int))))) else kx0)
def spec_l9Has (n : Nat) (list0 : List Int) (x1 : Int) : Option Bool :=
  loopN (fun (x : Int) J' => spec_l9Has_L2 n (some (false)) (fun t7 => some (t7)) J' list0 x1 x) n ((0 : Int))
def spec_RadiosOk_k0 {R : Type} (n : Nat) (kx2 : Option R) (kxr : Bool → Option R) (J : Int → Option R) (list18 : List SRadio) (i19 : Int) (k22 : Int) (r21 : SRadio) : Option R :=
  ix k22 r21.Hears.length ((bd (w64 ((list18.length : Int) - (1 : Int))) fun (v23 : Int) => (spec_l1In n (r21.Hears.getD k22.toNat (0 : Int)) (0 : Int) v23).bind fun r24 => (bif (!r24) then kxr false else (bif (decide ((r21.Hears.getD k22.toNat (0 : Int)) = i19)) then kxr false else (bif (decide (k22 > (0 : Int))) then ix (w64 (k22 - (1 : Int))) r21.Hears.length ((bif (decide ((r21.Hears.getD ((w64 (k22 - (1 : Int))).toNat) (0 : Int)) ≥ (r21.Hears.getD k22.toNat (0 : Int)))) then kxr false else ix (r21.Hears.getD k22.toNat (0 : Int)) list18.length ((bd (list18.getD ((r21.Hears.getD k22.toNat (0 : Int)).toNat) dSRadio) fun (e28 : SRadio) => (spec_l9Has n e28.Hears i19).bind fun r29 => (bif (!r29) then kxr false else J (w64 (k22 + (1 : Int)))))))) else ix (r21.Hears.getD k22.toNat (0 : Int)) list18.length ((bd (list18.getD ((r21.Hears.getD k22.toNat (0 : Int)).toNat) dSRadio) fun (e34 : SRadio) => (spec_l9Has n e34.Hears i19).bind fun r35 => (bif (!r35) then kxr false else J (w64 (k22 + (1 : Int)))))))))))
def spec_RadiosOk_L10 {R : Type} (n : Nat) (kx2 : Option R) (kxr : Bool → Option R) (J : Int → Option R) (list18 : List SRadio) (i19 : Int) (k20 : Int) (r21 : SRadio) : Option R :=
  (bif (decide (k20 < (r21.Hears.length : Int))) then spec_RadiosOk_k0 n kx2 kxr J list18 i19 k20 r21 else kx2)
def spec_RadiosOk_k1 {R : Type} (n : Nat) (kx0 : Option R) (kxr : Bool → Option R) (J : Int → Option R) (list2 : List SRadio) (i4 : Int) : Option R :=
  ix i4 list2.length ((bd (list2.getD i4.toNat dSRadio) fun (e5 : SRadio) => (spec_l1In n e5.Id (1 : Int) (999999999 : Int)).bind fun r6 => (bif (!r6) then kxr false else (bif (decide (i4 > (0 : Int))) then ix (w64 (i4 - (1 : Int))) list2.length ((bd (list2.getD ((w64 (i4 - (1 : Int))).toNat) dSRadio) fun (e9 : SRadio) => (bif (decide (e9.Id ≥ e5.Id)) then kxr false else (spec_l1In n e5.Slot (0 : Int) (19 : Int)).bind fun r12 => (bif (!r12) then kxr false else loopN (fun (x : Int) J' => spec_RadiosOk_L10 n (J (w64 (i4 + (1 : Int)))) (fun t48 => kxr t48) J' list2 i4 x e5) n ((0 : Int)))))) else (spec_l1In n e5.Slot (0 : Int) (19 : Int)).bind fun r50 => (bif (!r50) then kxr false else loopN (fun (x : Int) J' => spec_RadiosOk_L10 n (J (w64 (i4 + (1 : Int)))) (fun t57 => kxr t57) J' list2 i4 x e5) n ((0 : Int)))))))
def spec_RadiosOk_L4 {R : Type} (n : Nat) (kx0 : Option R) (kxr : Bool → Option R) (J : Int → Option R) (list2 : List SRadio) (i3 : Int) : Option R :=
  (bif (decide (i3 < (list2.length : Int))) then spec_RadiosOk_k1 n kx0 kxr J list2 i3 else kx0)
def spec_RadiosOk (n : Nat) (list0 : List SRadio) : Option Bool :=
  (spec_l1In n (list0.length : Int) (1 : Int) (24 : Int)).bind fun r1 => (bif (!r1) then some (false) else loopN (fun (x : Int) J' => spec_RadiosOk_L4 n (some (true)) (fun t61 => some (t61)) J' list0 x) n ((0 : Int)))
def spec_l3All_L2 {R : Type} (n : Nat) (kx0 : Option R) (kxr : Bool → Option R) (J : Int → Option R) (list1 : List Int) (a2 : Int) (b3 : Int) (i4 : Int) : Option R :=
  (bif (decide (i4 < (list1.length : Int))) then ix i4 list1.length ((spec_l1In n (list1.getD i4.toNat (0 : Int)) a2 b3).bind fun r8 => (bif (!r8) then kxr false else J (w64 (i4 + (1 : Int))))) else kx0)
def spec_l3All (n : Nat) (list0 : List Int) (a1 : Int) (b2 : Int) : Option Bool :=
  loopN (fun (x : Int) J' => spec_l3All_L2 n (some (true)) (fun t10 => some (t10)) J' list0 a1 b2 x) n ((0 : Int))
def spec_l9Copy_L3 {R : Type} (n : Nat) (kx0 : List SRadio → Option R) (J : Int → List SRadio → Option R) (list1 : List SRadio) (i2 : Int) (out3 : List SRadio) : Option R :=
  (bif (decide (i2 < (list1.length : Int))) then ix i2 list1.length ((bd (list1.getD i2.toNat dSRadio) fun (e7 : SRadio) => chk (decide (e7.Hears.length * 8 ≤ 140737488355328)) (chk (decide ((out3 ++ [e7]).length * 40 ≤ 140737488355328)) (J (w64 (i2 + (1 : Int))) (out3 ++ [e7]))))) else kx0 out3)
def spec_l9Copy (n : Nat) (list0 : List SRadio) : Option (List SRadio) :=
  loopN (fun (x : Int × List SRadio) J' => spec_l9Copy_L3 n (fun out8 => some (out8)) (fun i9 out10 => J' (i9, out10)) list0 x.1 x.2) n ((0 : Int), [])
def spec_Clashes_k0 {R : Type} (n : Nat) (kx2 : Bool → Option R) (J : Bool → Int → Option R) (list10 : List SRadio) (i11 : Int) (hit16 : Bool) (k17 : Int) (out14 : List Int) : Option R :=
  (bif hit16 then J true (w64 (k17 + (1 : Int))) else ix i11 list10.length ((bd (list10.getD i11.toNat dSRadio) fun (e19 : SRadio) => ix k17 e19.Hears.length (ix (e19.Hears.getD k17.toNat (0 : Int)) list10.length ((bd (list10.getD ((e19.Hears.getD k17.toNat (0 : Int)).toNat) dSRadio) fun (e20 : SRadio) => ix i11 list10.length ((bd (list10.getD i11.toNat dSRadio) fun (e21 : SRadio) => J (decide (e20.Slot = e21.Slot)) (w64 (k17 + (1 : Int)))))))))))
def spec_Clashes_L7 {R : Type} (n : Nat) (kx2 : Bool → Option R) (J : Bool → Int → Option R) (list10 : List SRadio) (i11 : Int) (hit12 : Bool) (k13 : Int) (out14 : List Int) : Option R :=
  ix i11 list10.length ((bd (list10.getD i11.toNat dSRadio) fun (e15 : SRadio) => (bif (decide (k13 < (e15.Hears.length : Int))) then spec_Clashes_k0 n kx2 J list10 i11 hit12 k13 out14 else kx2 hit12)))
def spec_Clashes_k1 {R : Type} (n : Nat) (kx0 : List Int → Option R) (J : Int → List Int → Option R) (list1 : List SRadio) (i8 : Int) (out9 : List Int) : Option R :=
  loopN (fun (x : Bool × Int) J' => spec_Clashes_L7 n (fun hit24 => (bif hit24 then chk (decide ((out9 ++ [i8]).length * 8 ≤ 140737488355328)) (J (w64 (i8 + (1 : Int))) (out9 ++ [i8])) else J (w64 (i8 + (1 : Int))) out9)) (fun hit29 k30 => J' (hit29, k30)) list1 i8 x.1 x.2 out9) n (false, (0 : Int))
def spec_Clashes_L3 {R : Type} (n : Nat) (kx0 : List Int → Option R) (J : Int → List Int → Option R) (list1 : List SRadio) (i2 : Int) (out3 : List Int) : Option R :=
  (bif (decide (i2 < (list1.length : Int))) then (spec_RadiosOk n list1).bind fun r4 => (bif r4 then spec_Clashes_k1 n kx0 J list1 i2 out3 else kx0 out3) else kx0 out3)
def spec_Clashes (n : Nat) (list0 : List SRadio) : Option (List Int) :=
  loopN (fun (x : Int × List Int) J' => spec_Clashes_L3 n (fun out35 => some (out35)) (fun i36 out37 => J' (i36, out37)) list0 x.1 x.2) n ((0 : Int), [])
def spec_Choose_k0 {R : Type} (n : Nat) (kx0 : List Bool → Option R) (J : Int → List Bool → Option R) (list5 : List SRadio) (at6 : Int) (coin7 : Int) (k11 : Int) (taken12 : List Bool) : Option R :=
  ix at6 list5.length ((bd (list5.getD at6.toNat dSRadio) fun (e13 : SRadio) => ix k11 e13.Hears.length (ix (e13.Hears.getD k11.toNat (0 : Int)) list5.length ((bd (list5.getD ((e13.Hears.getD k11.toNat (0 : Int)).toNat) dSRadio) fun (e14 : SRadio) => ix e14.Slot taken12.length (chk (decide (e14.Slot.toNat < taken12.length)) ((bd (taken12.set e14.Slot.toNat true) fun (l15 : List Bool) => J (w64 (k11 + (1 : Int))) l15))))))))
def spec_Choose_L5 {R : Type} (n : Nat) (kx0 : List Bool → Option R) (J : Int → List Bool → Option R) (list5 : List SRadio) (at6 : Int) (coin7 : Int) (k8 : Int) (taken9 : List Bool) : Option R :=
  ix at6 list5.length ((bd (list5.getD at6.toNat dSRadio) fun (e10 : SRadio) => (bif (decide (k8 < (e10.Hears.length : Int))) then spec_Choose_k0 n kx0 J list5 at6 coin7 k8 taken9 else kx0 taken9)))
def spec_Choose_L10 {R : Type} (n : Nat) (kx2 : List Int → Option R) (J : Int → List Int → Option R) (list17 : List SRadio) (at18 : Int) (coin19 : Int) (s20 : Int) (taken21 : List Bool) (free22 : List Int) : Option R :=
  (bif (decide (s20 < (20 : Int))) then ix s20 taken21.length (chk (decide (s20.toNat < taken21.length)) ((bif (!(taken21.getD s20.toNat false)) then chk (decide ((free22 ++ [s20]).length * 8 ≤ 140737488355328)) (J (w64 (s20 + (1 : Int))) (free22 ++ [s20])) else J (w64 (s20 + (1 : Int))) free22))) else kx2 free22)
def spec_Choose_k1 (n : Nat)  (list0 : List SRadio) (at1 : Int) (coin2 : Int) : Option (Int × Bool) :=
  loopN (fun (x : Int × List Bool) J' => spec_Choose_L5 n (fun taken16 => loopN (fun (x : Int × List Int) J' => spec_Choose_L10 n (fun free33 => (bif (decide ((free33.length : Int) = (0 : Int))) then ix at1 list0.length ((bd (list0.getD at1.toNat dSRadio) fun (e34 : SRadio) => some (e34.Slot, false))) else (bif decide ((free33.length : Int) = 0) then none else (bd (Int.tmod coin2 (free33.length : Int)) fun (v37 : Int) => ix v37 free33.length (chk (decide (v37.toNat < free33.length)) (some ((free33.getD v37.toNat (0 : Int)), true))))))) (fun s38 free39 => J' (s38, free39)) list0 at1 coin2 x.1 taken16 x.2) n ((0 : Int), [])) (fun k40 taken41 => J' (k40, taken41)) list0 at1 coin2 x.1 x.2) n ((0 : Int), (List.replicate 20 false))
def spec_Choose (n : Nat) (list0 : List SRadio) (at1 : Int) (coin2 : Int) : Option (Int × Bool) :=
  (spec_RadiosOk n list0).bind fun r1 => (bif (!r1) then some ((-1 : Int), false) else (bd (w64 ((list0.length : Int) - (1 : Int))) fun (v2 : Int) => (spec_l1In n at1 (0 : Int) v2).bind fun r3 => (bif (!r3) then some ((-1 : Int), false) else (bif (decide (coin2 < (0 : Int))) then some ((-1 : Int), false) else spec_Choose_k1 n  list0 at1 coin2))))
def spec_Settle_k0 {R : Type} (n : Nat) (kx0 : Int → List SRadio → Option R) (J : Int → List SRadio → Option R) (coins5 : List Int) (used15 : Int) (slot16 : Int) (out17 : List SRadio) (t18 : List Int) : Option R :=
  ix (0 : Int) t18.length (chk (decide (0 < t18.length)) (ix (t18.getD 0 (0 : Int)) out17.length (chk (decide ((t18.getD 0 (0 : Int)).toNat < out17.length)) ((bd (out17.getD ((t18.getD 0 (0 : Int)).toNat) dSRadio) fun (e19 : SRadio) => (bd (out17.set ((t18.getD 0 (0 : Int)).toNat) (⟨e19.Id, slot16, e19.Hears⟩ : SRadio)) fun (l20 : List SRadio) => (bd (w64 (used15 + (1 : Int))) fun (v21 : Int) => J v21 l20)))))))
def spec_Settle_k1 {R : Type} (n : Nat) (kx0 : Int → List SRadio → Option R) (J : Int → List SRadio → Option R) (coins5 : List Int) (used11 : Int) (out12 : List SRadio) (t13 : List Int) : Option R :=
  ix (0 : Int) t13.length (chk (decide (0 < t13.length)) (ix used11 coins5.length ((spec_Choose n out12 (t13.getD 0 (0 : Int)) (coins5.getD used11.toNat (0 : Int))).bind fun r14 => (bif (!r14.2) then kx0 used11 out12 else spec_Settle_k0 n kx0 J coins5 used11 r14.1 out12 t13))))
def spec_Settle_L5 {R : Type} (n : Nat) (kx0 : Int → List SRadio → Option R) (J : Int → List SRadio → Option R) (coins5 : List Int) (used6 : Int) (out7 : List SRadio) : Option R :=
  (bif (decide (used6 < (coins5.length : Int))) then (spec_Clashes n out7).bind fun r22 => (bif (decide ((r22.length : Int) = (0 : Int))) then kx0 used6 out7 else spec_Settle_k1 n kx0 J coins5 used6 out7 r22) else kx0 used6 out7)
def spec_Settle_k2 (n : Nat)  (list0 : List SRadio) (coins1 : List Int) : Option (List SRadio × Int × Bool) :=
  (spec_l9Copy n list0).bind fun r4 => loopN (fun (x : Int × List SRadio) J' => spec_Settle_L5 n (fun used26 out27 => (spec_Clashes n out27).bind fun r28 => some (out27, used26, (decide ((r28.length : Int) = (0 : Int))))) (fun used29 out30 => J' (used29, out30)) coins1 x.1 x.2) n ((0 : Int), r4)
def spec_Settle (n : Nat) (list0 : List SRadio) (coins1 : List Int) : Option (List SRadio × Int × Bool) :=
  (spec_RadiosOk n list0).bind fun r1 => (bif (!r1) then some ([], (0 : Int), false) else (bif (decide ((coins1.length : Int) > (200 : Int))) then some ([], (0 : Int), false) else (spec_l3All n coins1 (0 : Int) (9223372036854775807 : Int)).bind fun r2 => (bif (!r2) then some ([], (0 : Int), false) else spec_Settle_k2 n  list0 coins1)))
def impl_in (n : Nat) (n0 : Int) (least1 : Int) (most2 : Int) : Option Bool :=
  (bif (decide (n0 ≥ least1)) then some ((decide (n0 ≤ most2))) else some (false))
def impl_idOk (n : Nat) (n0 : Int) : Option Bool :=
  (impl_in n n0 (1 : Int) (999999999 : Int)).bind fun r1 => some (r1)
def impl_slotOk (n : Nat) (n0 : Int) : Option Bool :=
  (impl_in n n0 (0 : Int) (19 : Int)).bind fun r1 => some (r1)
def slices_Index_int_int_L2 {R : Type} (n : Nat) (kx0 : Option R) (kxr : Int → Option R) (J : Int → Option R) (s1 : List Int) (v2 : Int) (t3 : Int) (t4 : Int) : Option R :=
  (bif (decide (t4 < t3)) then ix t4 s1.length ((bif (decide (v2 = (s1.getD t4.toNat (0 : Int)))) then kxr t4 else J (w64 (t4 + (1 : Int))))) else kx0)
def slices_Index_int_int (n : Nat) (s0 : List Int) (v1 : Int) : Option Int :=
  loopN (fun (x : Int) J' => slices_Index_int_int_L2 n (some ((-1 : Int))) (fun t8 => some (t8)) J' s0 v1 (s0.length : Int) x) n ((0 : Int))
def slices_Contains_int_int (n : Nat) (s0 : List Int) (v1 : Int) : Option Bool :=
  (slices_Index_int_int n s0 v1).bind fun r1 => some ((decide (r1 ≥ (0 : Int))))
def impl_RadiosOk_k0 {R : Type} (n : Nat) (kx2 : Option R) (kxr : Bool → Option R) (J : Int → Option R) (list24 : List SRadio) (i25 : Int) (t26 : List SRadio) (t27 : Int) (t28 : Int) (t29 : List Int) (t30 : Int) (t33 : Int) (r32 : SRadio) : Option R :=
  ix t33 t29.length ((bd (w64 ((list24.length : Int) - (1 : Int))) fun (v34 : Int) => (impl_in n (t29.getD t33.toNat (0 : Int)) (0 : Int) v34).bind fun r35 => (bif (!r35) then kxr false else (bif (decide ((t29.getD t33.toNat (0 : Int)) = i25)) then kxr false else (bif (decide (t33 > (0 : Int))) then ix (w64 (t33 - (1 : Int))) r32.Hears.length ((bif (decide ((r32.Hears.getD ((w64 (t33 - (1 : Int))).toNat) (0 : Int)) ≥ (t29.getD t33.toNat (0 : Int)))) then kxr false else ix (t29.getD t33.toNat (0 : Int)) list24.length ((bd (list24.getD ((t29.getD t33.toNat (0 : Int)).toNat) dSRadio) fun (e39 : SRadio) => (slices_Contains_int_int n e39.Hears i25).bind fun r40 => (bif (!r40) then kxr false else J (w64 (t33 + (1 : Int)))))))) else ix (t29.getD t33.toNat (0 : Int)) list24.length ((bd (list24.getD ((t29.getD t33.toNat (0 : Int)).toNat) dSRadio) fun (e45 : SRadio) => (slices_Contains_int_int n e45.Hears i25).bind fun r46 => (bif (!r46) then kxr false else J (w64 (t33 + (1 : Int)))))))))))
def impl_RadiosOk_L9 {R : Type} (n : Nat) (kx2 : Option R) (kxr : Bool → Option R) (J : Int → Option R) (list24 : List SRadio) (i25 : Int) (t26 : List SRadio) (t27 : Int) (t28 : Int) (t29 : List Int) (t30 : Int) (t31 : Int) (r32 : SRadio) : Option R :=
  (bif (decide (t31 < t30)) then impl_RadiosOk_k0 n kx2 kxr J list24 i25 t26 t27 t28 t29 t30 t31 r32 else kx2)
def impl_RadiosOk_k1 {R : Type} (n : Nat) (kx0 : Option R) (kxr : Bool → Option R) (J : Int → Option R) (list2 : List SRadio) (t3 : List SRadio) (t4 : Int) (t6 : Int) : Option R :=
  ix t6 t3.length ((bd (t3.getD t6.toNat dSRadio) fun (e7 : SRadio) => (impl_idOk n e7.Id).bind fun r8 => (bif (!r8) then kxr false else (bif (decide (t6 > (0 : Int))) then ix (w64 (t6 - (1 : Int))) list2.length ((bd (list2.getD ((w64 (t6 - (1 : Int))).toNat) dSRadio) fun (e12 : SRadio) => (bif (decide (e12.Id ≥ e7.Id)) then kxr false else (impl_slotOk n e7.Slot).bind fun r16 => (bif (!r16) then kxr false else loopN (fun (x : Int) J' => impl_RadiosOk_L9 n (J (w64 (t6 + (1 : Int)))) (fun t60 => kxr t60) J' list2 t6 t3 t4 t6 e7.Hears (e7.Hears.length : Int) x e7) n ((0 : Int)))))) else (impl_slotOk n e7.Slot).bind fun r62 => (bif (!r62) then kxr false else loopN (fun (x : Int) J' => impl_RadiosOk_L9 n (J (w64 (t6 + (1 : Int)))) (fun t71 => kxr t71) J' list2 t6 t3 t4 t6 e7.Hears (e7.Hears.length : Int) x e7) n ((0 : Int)))))))
def impl_RadiosOk_L4 {R : Type} (n : Nat) (kx0 : Option R) (kxr : Bool → Option R) (J : Int → Option R) (list2 : List SRadio) (t3 : List SRadio) (t4 : Int) (t5 : Int) : Option R :=
  (bif (decide (t5 < t4)) then impl_RadiosOk_k1 n kx0 kxr J list2 t3 t4 t5 else kx0)
def impl_RadiosOk (n : Nat) (list0 : List SRadio) : Option Bool :=
  (impl_in n (list0.length : Int) (1 : Int) (24 : Int)).bind fun r1 => (bif (!r1) then some (false) else loopN (fun (x : Int) J' => impl_RadiosOk_L4 n (some (true)) (fun t75 => some (t75)) J' list0 list0 (list0.length : Int) x) n ((0 : Int)))
def impl_Settle_1 (n : Nat) (c0 : Int) : Option Bool :=
  some ((decide (c0 < (0 : Int))))
def slices_IndexFunc_int_int__impl_Settle_1_L2 {R : Type} (n : Nat) (kx0 : Option R) (kxr : Int → Option R) (J : Int → Option R) (s1 : List Int) (t2 : Int) (t3 : Int) : Option R :=
  (bif (decide (t3 < t2)) then ix t3 s1.length ((impl_Settle_1 n (s1.getD t3.toNat (0 : Int))).bind fun r7 => (bif r7 then kxr t3 else J (w64 (t3 + (1 : Int))))) else kx0)
def slices_IndexFunc_int_int__impl_Settle_1 (n : Nat) (s0 : List Int) : Option Int :=
  loopN (fun (x : Int) J' => slices_IndexFunc_int_int__impl_Settle_1_L2 n (some ((-1 : Int))) (fun t9 => some (t9)) J' s0 (s0.length : Int) x) n ((0 : Int))
def slices_ContainsFunc_int_int__impl_Settle_1 (n : Nat) (s0 : List Int) : Option Bool :=
  (slices_IndexFunc_int_int__impl_Settle_1 n s0).bind fun r1 => some ((decide (r1 ≥ (0 : Int))))
def impl_own_impl_Radio (n : Nat) (l0 : List SRadio) : Option (List SRadio) :=
  chk (decide ((0 : Int) ≤ (l0.length : Int))) (chk (decide ((l0.length : Int) ≤ 9223372036854775807 ∧ (l0.length : Int) * (40 : Int) ≤ 281474976710656)) (chk (decide (l0.length * 40 ≤ 140737488355328)) (some (l0))))
def impl_own_int (n : Nat) (l0 : List Int) : Option (List Int) :=
  chk (decide ((0 : Int) ≤ (l0.length : Int))) (chk (decide ((l0.length : Int) ≤ 9223372036854775807 ∧ (l0.length : Int) * (8 : Int) ≤ 281474976710656)) (chk (decide (l0.length * 8 ≤ 140737488355328)) (some (l0))))
def impl_Clashes_1 (n : Nat) (h0 : Int) (a1 : List SRadio) (a2 : SRadio) : Option Bool :=
  ix h0 a1.length ((bd (a1.getD h0.toNat dSRadio) fun (e1 : SRadio) => some ((decide (e1.Slot = a2.Slot)))))
def slices_IndexFunc_int_int__impl_Clashes_1_L2 {R : Type} (n : Nat) (kx0 : Option R) (kxr : Int → Option R) (J : Int → Option R) (s1 : List Int) (f2 : List SRadio) (f3 : SRadio) (t4 : Int) (t5 : Int) : Option R :=
  (bif (decide (t5 < t4)) then ix t5 s1.length ((impl_Clashes_1 n (s1.getD t5.toNat (0 : Int)) f2 f3).bind fun r9 => (bif r9 then kxr t5 else J (w64 (t5 + (1 : Int))))) else kx0)
def slices_IndexFunc_int_int__impl_Clashes_1 (n : Nat) (s0 : List Int) (f1c0 : List SRadio) (f1c1 : SRadio) : Option Int :=
  loopN (fun (x : Int) J' => slices_IndexFunc_int_int__impl_Clashes_1_L2 n (some ((-1 : Int))) (fun t11 => some (t11)) J' s0 f1c0 f1c1 (s0.length : Int) x) n ((0 : Int))
def slices_ContainsFunc_int_int__impl_Clashes_1 (n : Nat) (s0 : List Int) (f1c0 : List SRadio) (f1c1 : SRadio) : Option Bool :=
  (slices_IndexFunc_int_int__impl_Clashes_1 n s0 f1c0 f1c1).bind fun r1 => some ((decide (r1 ≥ (0 : Int))))
def impl_Clashes_k0 {R : Type} (n : Nat) (kx0 : List Int → Option R) (J : Int → List Int → Option R) (t2 : List SRadio) (t3 : Int) (t7 : Int) (list5 : List SRadio) (out8 : List Int) : Option R :=
  ix t7 t2.length ((bd (t2.getD t7.toNat dSRadio) fun (e9 : SRadio) => (slices_ContainsFunc_int_int__impl_Clashes_1 n e9.Hears list5 e9).bind fun r10 => (bif r10 then chk (decide ((out8 ++ [t7]).length * 8 ≤ 140737488355328)) (J (w64 (t7 + (1 : Int))) (out8 ++ [t7])) else J (w64 (t7 + (1 : Int))) out8)))
def impl_Clashes_L5 {R : Type} (n : Nat) (kx0 : List Int → Option R) (J : Int → List Int → Option R) (t2 : List SRadio) (t3 : Int) (t4 : Int) (list5 : List SRadio) (out6 : List Int) : Option R :=
  (bif (decide (t4 < t3)) then impl_Clashes_k0 n kx0 J t2 t3 t4 list5 out6 else kx0 out6)
def impl_Clashes (n : Nat) (list0 : List SRadio) : Option (List Int) :=
  (impl_RadiosOk n list0).bind fun r1 => (bif (!r1) then some ([]) else loopN (fun (x : Int × List Int) J' => impl_Clashes_L5 n (fun out19 => (impl_own_int n out19).bind fun r20 => some (r20)) (fun t21 out22 => J' (t21, out22)) list0 (list0.length : Int) x.1 list0 x.2) n ((0 : Int), []))
def impl_Choose_1 (n : Nat) (h0 : Int) (a1 : List SRadio) (a2 : Int) : Option Bool :=
  ix h0 a1.length ((bd (a1.getD h0.toNat dSRadio) fun (e1 : SRadio) => some ((decide (e1.Slot = a2)))))
def slices_IndexFunc_int_int__impl_Choose_1_L2 {R : Type} (n : Nat) (kx0 : Option R) (kxr : Int → Option R) (J : Int → Option R) (s1 : List Int) (f2 : List SRadio) (f3 : Int) (t4 : Int) (t5 : Int) : Option R :=
  (bif (decide (t5 < t4)) then ix t5 s1.length ((impl_Choose_1 n (s1.getD t5.toNat (0 : Int)) f2 f3).bind fun r9 => (bif r9 then kxr t5 else J (w64 (t5 + (1 : Int))))) else kx0)
def slices_IndexFunc_int_int__impl_Choose_1 (n : Nat) (s0 : List Int) (f1c0 : List SRadio) (f1c1 : Int) : Option Int :=
  loopN (fun (x : Int) J' => slices_IndexFunc_int_int__impl_Choose_1_L2 n (some ((-1 : Int))) (fun t11 => some (t11)) J' s0 f1c0 f1c1 (s0.length : Int) x) n ((0 : Int))
def slices_ContainsFunc_int_int__impl_Choose_1 (n : Nat) (s0 : List Int) (f1c0 : List SRadio) (f1c1 : Int) : Option Bool :=
  (slices_IndexFunc_int_int__impl_Choose_1 n s0 f1c0 f1c1).bind fun r1 => some ((decide (r1 ≥ (0 : Int))))
def impl_Choose_k0 {R : Type} (n : Nat) (kx0 : List Int → Option R) (J : Int → List Int → Option R) (at5 : Int) (coin6 : Int) (t10 : Int) (list8 : List SRadio) (free11 : List Int) : Option R :=
  ix at5 list8.length ((bd (list8.getD at5.toNat dSRadio) fun (e12 : SRadio) => (slices_ContainsFunc_int_int__impl_Choose_1 n e12.Hears list8 t10).bind fun r13 => (bif (!r13) then chk (decide ((free11 ++ [t10]).length * 8 ≤ 140737488355328)) (J (w64 (t10 + (1 : Int))) (free11 ++ [t10])) else J (w64 (t10 + (1 : Int))) free11)))
def impl_Choose_L5 {R : Type} (n : Nat) (kx0 : List Int → Option R) (J : Int → List Int → Option R) (at5 : Int) (coin6 : Int) (t7 : Int) (list8 : List SRadio) (free9 : List Int) : Option R :=
  (bif (decide (t7 < (20 : Int))) then impl_Choose_k0 n kx0 J at5 coin6 t7 list8 free9 else kx0 free9)
def impl_Choose_k1 (n : Nat)  (at1 : Int) (coin2 : Int) (list0 : List SRadio) : Option (Int × Bool) :=
  loopN (fun (x : Int × List Int) J' => impl_Choose_L5 n (fun free18 => (bif (decide ((free18.length : Int) = (0 : Int))) then ix at1 list0.length ((bd (list0.getD at1.toNat dSRadio) fun (e19 : SRadio) => some (e19.Slot, false))) else (bif decide ((free18.length : Int) = 0) then none else (bd (Int.tmod coin2 (free18.length : Int)) fun (v22 : Int) => ix v22 free18.length (chk (decide (v22.toNat < free18.length)) (some ((free18.getD v22.toNat (0 : Int)), true))))))) (fun t23 free24 => J' (t23, free24)) at1 coin2 x.1 list0 x.2) n ((0 : Int), [])
def impl_Choose (n : Nat) (list0 : List SRadio) (at1 : Int) (coin2 : Int) : Option (Int × Bool) :=
  (impl_RadiosOk n list0).bind fun r1 => (bif (!r1) then some ((-1 : Int), false) else (bd (w64 ((list0.length : Int) - (1 : Int))) fun (v2 : Int) => (impl_in n at1 (0 : Int) v2).bind fun r3 => (bif (!r3) then some ((-1 : Int), false) else (bif (decide (coin2 < (0 : Int))) then some ((-1 : Int), false) else impl_Choose_k1 n  at1 coin2 list0))))
def impl_Settle_k0 {R : Type} (n : Nat) (kx0 : (List SRadio) × Nat → Option R) (J : Int → (List SRadio) × Nat → Option R) (coins5 : List Int) (t6 : Int) (t9 : Int) (l10 : Nat) (l11 : List SRadio) : Option R :=
  ix t9 l11.length (chk (decide (t9.toNat < l11.length)) ((bif (decide (t9.toNat < l10)) then chk (decide (t9.toNat < l11.length)) ((impl_own_int n ((l11.getD t9.toNat dSRadio).Hears)).bind fun r12 => ix t9 l11.length (chk (decide (t9.toNat < l11.length)) ((bd (l11.getD t9.toNat dSRadio) fun (e13 : SRadio) => (bif (decide (t9.toNat = l10)) then (bd (l11.set t9.toNat (⟨e13.Id, e13.Slot, r12⟩ : SRadio)) fun (l14 : List SRadio) => J (w64 (t9 + (1 : Int))) (l14, (l10 + 1))) else (bd (l11.set t9.toNat (⟨e13.Id, e13.Slot, r12⟩ : SRadio)) fun (l15 : List SRadio) => J (w64 (t9 + (1 : Int))) (l15, l10))))))) else (impl_own_int n ((l11.getD t9.toNat dSRadio).Hears)).bind fun r16 => ix t9 l11.length (chk (decide (t9.toNat < l11.length)) ((bd (l11.getD t9.toNat dSRadio) fun (e17 : SRadio) => (bif (decide (t9.toNat = l10)) then (bd (l11.set t9.toNat (⟨e17.Id, e17.Slot, r16⟩ : SRadio)) fun (l18 : List SRadio) => J (w64 (t9 + (1 : Int))) (l18, (l10 + 1))) else (bd (l11.set t9.toNat (⟨e17.Id, e17.Slot, r16⟩ : SRadio)) fun (l19 : List SRadio) => J (w64 (t9 + (1 : Int))) (l19, l10)))))))))
def impl_Settle_L5 {R : Type} (n : Nat) (kx0 : (List SRadio) × Nat → Option R) (J : Int → (List SRadio) × Nat → Option R) (coins5 : List Int) (t6 : Int) (t7 : Int) (l8 : (List SRadio) × Nat) : Option R :=
  (bif (decide (t7 < t6)) then impl_Settle_k0 n kx0 J coins5 t6 t7 l8.2 l8.1 else kx0 (l8.1, l8.2))
def impl_Settle_k1 {R : Type} (n : Nat) (kxr : Int → Bool → (List SRadio) × Nat → Option R) (J : Int → (List SRadio) × Nat → Option R) (coins21 : List Int) (used39 : Int) (s40 : Int) (l41 : Nat) (l42 : List SRadio) (t43 : List Int) : Option R :=
  ix (0 : Int) t43.length (chk (decide (0 < t43.length)) (ix (t43.getD 0 (0 : Int)) l42.length (chk (decide ((t43.getD 0 (0 : Int)).toNat < l42.length)) ((bd (l42.getD ((t43.getD 0 (0 : Int)).toNat) dSRadio) fun (e44 : SRadio) => (bd (l42.set ((t43.getD 0 (0 : Int)).toNat) (⟨e44.Id, s40, e44.Hears⟩ : SRadio)) fun (l45 : List SRadio) => (bd (w64 (used39 + (1 : Int))) fun (v46 : Int) => J v46 (l45, l41))))))))
def impl_Settle_k2 {R : Type} (n : Nat) (kxr : Int → Bool → (List SRadio) × Nat → Option R) (J : Int → (List SRadio) × Nat → Option R) (coins21 : List Int) (used34 : Int) (l35 : Nat) (l36 : List SRadio) (t37 : List Int) : Option R :=
  ix (0 : Int) t37.length (chk (decide (0 < t37.length)) (ix used34 coins21.length ((impl_Choose n l36 (t37.getD 0 (0 : Int)) (coins21.getD used34.toNat (0 : Int))).bind fun r38 => (bif (!r38.2) then kxr used34 false (l36, l35) else impl_Settle_k1 n kxr J coins21 used34 r38.1 l35 l36 t37))))
def impl_Settle_L10 {R : Type} (n : Nat) (kxr : Int → Bool → (List SRadio) × Nat → Option R) (J : Int → (List SRadio) × Nat → Option R) (coins21 : List Int) (used22 : Int) (l23 : (List SRadio) × Nat) : Option R :=
  (impl_Clashes n l23.1).bind fun r24 => (bif (decide ((r24.length : Int) = (0 : Int))) then kxr used22 (decide ((r24.length : Int) = (0 : Int))) (l23.1, l23.2) else (bif (decide (used22 = (coins21.length : Int))) then kxr used22 (decide ((r24.length : Int) = (0 : Int))) (l23.1, l23.2) else impl_Settle_k2 n kxr J coins21 used22 l23.2 l23.1 r24))
def impl_Settle_k3 (n : Nat)  (list0 : List SRadio) (coins1 : List Int) : Option (List SRadio × Int × Bool) :=
  (impl_own_impl_Radio n list0).bind fun r4 => loopN (fun (x : Int × ((List SRadio) × Nat)) J' => impl_Settle_L5 n (fun l20 => loopN (fun (x : Int × ((List SRadio) × Nat)) J' => impl_Settle_L10 n (fun t51 t52 t53 => chk (decide (t53.1.length ≤ t53.2)) (some (t53.1, t51, t52))) (fun used54 l55 => J' (used54, l55)) coins1 x.1 x.2) n ((0 : Int), (l20.1, l20.2))) (fun t56 l57 => J' (t56, l57)) coins1 (r4.length : Int) x.1 x.2) n ((0 : Int), (r4, 0))
def impl_Settle (n : Nat) (list0 : List SRadio) (coins1 : List Int) : Option (List SRadio × Int × Bool) :=
  (impl_RadiosOk n list0).bind fun r1 => (bif (!r1) then some ([], (0 : Int), false) else (bif (decide ((coins1.length : Int) > (200 : Int))) then some ([], (0 : Int), false) else (slices_ContainsFunc_int_int__impl_Settle_1 n coins1).bind fun r2 => (bif r2 then some ([], (0 : Int), false) else impl_Settle_k3 n  list0 coins1)))
def laws_eqIntS_L4 {R : Type} (n : Nat) (kx0 : Option R) (kxr : Bool → Option R) (J : Int → Option R) (a1 : List Int) (b2 : List Int) (i3 : Int) : Option R :=
  (bif (decide (i3 < (a1.length : Int))) then ix i3 a1.length (ix i3 b2.length ((bif (!(decide ((a1.getD i3.toNat (0 : Int)) = (b2.getD i3.toNat (0 : Int))))) then kxr false else J (w64 (i3 + (1 : Int)))))) else kx0)
def laws_eqIntS (n : Nat) (a0 : List Int) (b1 : List Int) : Option Bool :=
  (bif (!(decide ((a0.length : Int) = (b1.length : Int)))) then some (false) else loopN (fun (x : Int) J' => laws_eqIntS_L4 n (some (true)) (fun t9 => some (t9)) J' a0 b1 x) n ((0 : Int)))
def laws_eqRadio (n : Nat) (a0 : SRadio) (b1 : SRadio) : Option Bool :=
  (bif (!(decide (a0.Id = b1.Id))) then some (false) else (bif (!(decide (a0.Slot = b1.Slot))) then some (false) else (laws_eqIntS n a0.Hears b1.Hears).bind fun r3 => (bif (!r3) then some (false) else some (true))))
def laws_eqRadioS_L4 {R : Type} (n : Nat) (kx0 : Option R) (kxr : Bool → Option R) (J : Int → Option R) (a1 : List SRadio) (b2 : List SRadio) (i3 : Int) : Option R :=
  (bif (decide (i3 < (a1.length : Int))) then ix i3 a1.length ((bd (a1.getD i3.toNat dSRadio) fun (e9 : SRadio) => ix i3 b2.length ((bd (b2.getD i3.toNat dSRadio) fun (e10 : SRadio) => (laws_eqRadio n e9 e10).bind fun r11 => (bif (!r11) then kxr false else J (w64 (i3 + (1 : Int)))))))) else kx0)
def laws_eqRadioS (n : Nat) (a0 : List SRadio) (b1 : List SRadio) : Option Bool :=
  (bif (!(decide ((a0.length : Int) = (b1.length : Int)))) then some (false) else loopN (fun (x : Int) J' => laws_eqRadioS_L4 n (some (true)) (fun t15 => some (t15)) J' a0 b1 x) n ((0 : Int)))
def laws_markIntS_L2 {R : Type} (n : Nat) (kx0 : Int → List Int → Option R) (J : Int → Int → List Int → Option R) (k1 : Int) (i2 : Int) (p3 : List Int) : Option R :=
  (bif (decide (i2 < (p3.length : Int))) then ix i2 p3.length (chk (decide (i2.toNat < p3.length)) (J (w64 (k1 + (1 : Int))) (w64 (i2 + (1 : Int))) (p3.set i2.toNat k1))) else kx0 k1 p3)
def laws_markIntS (n : Nat) (a0 : List Int) (k1 : Int) : Option (Int × List Int) :=
  loopN (fun (x : Int × Int × List Int) J' => laws_markIntS_L2 n (fun k7 p8 => some (k7, p8)) (fun k9 i10 p11 => J' (k9, i10, p11)) x.1 x.2.1 x.2.2) n (k1, (0 : Int), a0)
def laws_markRadioS_k0 {R : Type} (n : Nat) (kx0 : Int → List SRadio → Option R) (J : Int → Int → List SRadio → Option R) (k4 : Int) (i5 : Int) (p6 : List SRadio) : Option R :=
  ix i5 p6.length (chk (decide (i5.toNat < p6.length)) ((bd (p6.getD i5.toNat dSRadio) fun (e7 : SRadio) => (bd (p6.set i5.toNat (⟨k4, e7.Slot, e7.Hears⟩ : SRadio)) fun (l8 : List SRadio) => ix i5 l8.length (chk (decide (i5.toNat < l8.length)) ((bd (l8.getD i5.toNat dSRadio) fun (e9 : SRadio) => (bd (l8.set i5.toNat (⟨e9.Id, (w64 (k4 + (1 : Int))), e9.Hears⟩ : SRadio)) fun (l10 : List SRadio) => (bd (w64 ((w64 (k4 + (1 : Int))) + (1 : Int))) fun (v11 : Int) => ix i5 l10.length (chk (decide (i5.toNat < l10.length)) (chk (decide (i5.toNat < l10.length)) ((laws_markIntS n ((l10.getD i5.toNat dSRadio).Hears) v11).bind fun r12 => chk (decide (i5.toNat = i5.toNat)) (chk (decide (i5.toNat < l10.length)) ((bd (l10.getD i5.toNat dSRadio) fun (e13 : SRadio) => (bd (l10.set i5.toNat (⟨e13.Id, e13.Slot, r12.2⟩ : SRadio)) fun (l14 : List SRadio) => J r12.1 (w64 (i5 + (1 : Int))) l14))))))))))))))))
def laws_markRadioS_L2 {R : Type} (n : Nat) (kx0 : Int → List SRadio → Option R) (J : Int → Int → List SRadio → Option R) (k1 : Int) (i2 : Int) (p3 : List SRadio) : Option R :=
  (bif (decide (i2 < (p3.length : Int))) then laws_markRadioS_k0 n kx0 J k1 i2 p3 else kx0 k1 p3)
def laws_markRadioS (n : Nat) (a0 : List SRadio) (k1 : Int) : Option (Int × List SRadio) :=
  loopN (fun (x : Int × Int × List SRadio) J' => laws_markRadioS_L2 n (fun k15 p16 => some (k15, p16)) (fun k17 i18 p19 => J' (k17, i18, p19)) x.1 x.2.1 x.2.2) n (k1, (0 : Int), a0)
def laws_heldIntS_L2 {R : Type} (n : Nat) (kx0 : Int → Option R) (kxr : Int → Option R) (J : Int → Int → Option R) (a1 : List Int) (k2 : Int) (i3 : Int) : Option R :=
  (bif (decide (i3 < (a1.length : Int))) then ix i3 a1.length ((bif (!(decide ((a1.getD i3.toNat (0 : Int)) = k2))) then kxr (-1 : Int) else J (w64 (k2 + (1 : Int))) (w64 (i3 + (1 : Int))))) else kx0 k2)
def laws_heldIntS (n : Nat) (a0 : List Int) (k1 : Int) : Option Int :=
  loopN (fun (x : Int × Int) J' => laws_heldIntS_L2 n (fun k16 => some (k16)) (fun t17 => some (t17)) (fun k18 i19 => J' (k18, i19)) a0 x.1 x.2) n (k1, (0 : Int))
def laws_heldRadioS_k0 {R : Type} (n : Nat) (kx0 : Int → Option R) (kxr : Int → Option R) (J : Int → Int → Option R) (a1 : List SRadio) (k7 : Int) (i8 : Int) : Option R :=
  ix i8 a1.length ((bd (a1.getD i8.toNat dSRadio) fun (e9 : SRadio) => (bif (!(decide (e9.Slot = (w64 (k7 + (1 : Int)))))) then kxr (-1 : Int) else (bd (w64 ((w64 (k7 + (1 : Int))) + (1 : Int))) fun (v16 : Int) => ix i8 a1.length ((bd (a1.getD i8.toNat dSRadio) fun (e17 : SRadio) => (laws_heldIntS n e17.Hears v16).bind fun r18 => (bif (decide (r18 < (0 : Int))) then kxr (-1 : Int) else J r18 (w64 (i8 + (1 : Int))))))))))
def laws_heldRadioS_L2 {R : Type} (n : Nat) (kx0 : Int → Option R) (kxr : Int → Option R) (J : Int → Int → Option R) (a1 : List SRadio) (k2 : Int) (i3 : Int) : Option R :=
  (bif (decide (i3 < (a1.length : Int))) then ix i3 a1.length ((bd (a1.getD i3.toNat dSRadio) fun (e21 : SRadio) => (bif (!(decide (e21.Id = k2))) then kxr (-1 : Int) else laws_heldRadioS_k0 n kx0 kxr J a1 k2 i3))) else kx0 k2)
def laws_heldRadioS (n : Nat) (a0 : List SRadio) (k1 : Int) : Option Int :=
  loopN (fun (x : Int × Int) J' => laws_heldRadioS_L2 n (fun k24 => some (k24)) (fun t25 => some (t25)) (fun k26 i27 => J' (k26, i27)) a0 x.1 x.2) n (k1, (0 : Int))
def laws_FnExactSettle_k0 (n : Nat)  (aList0 : List SRadio) (aCoins1 : List Int) (w194 : Int) (w295 : Bool) (m96 : Int) (t97 : List SRadio) (t98 : List SRadio) : Option Bool :=
  (laws_toRadioS n aList0).bind fun r99 => (laws_toIntS n aCoins1).bind fun r100 => (impl_Settle n r99 r100).bind fun r101 => (laws_eqRadioS n r101.1 t97).bind fun r102 => (bif (!r102) then some (false) else (bif (!(decide (r101.2.1 = w194))) then some (false) else (bif (!(r101.2.2 == w295)) then some (false) else (laws_heldRadioS n t98 (1 : Int)).bind fun r120 => (bif (decide (r120 < (0 : Int))) then some (false) else (bif (!(decide (r120 = m96))) then some (false) else some (true))))))
def laws_FnExactSettle_k1 (n : Nat)  (aList0 : List SRadio) (aCoins1 : List Int) (w177 : Int) (w278 : Bool) (t79 : Bool) (t80 : List SRadio) (t81 : List SRadio) : Option Bool :=
  (bif t79 then some (false) else (laws_markRadioS n t81 (1 : Int)).bind fun r128 => (laws_heldRadioS n r128.2 (1 : Int)).bind fun r129 => (bif (decide (r129 < (0 : Int))) then some (false) else (bif (!(decide (r129 = r128.1))) then some (false) else laws_FnExactSettle_k0 n  aList0 aCoins1 w177 w278 r128.1 t80 r128.2)))
def laws_FnExactSettle_k2 (n : Nat)  (aList0 : List SRadio) (aCoins1 : List Int) (w154 : Int) (w255 : Bool) (g156 : Int) (g257 : Bool) (t58 : List SRadio) (t59 : List SRadio) (t60 : List Int) (t61 : List SRadio) : Option Bool :=
  (laws_markRadioS n t59 (1 : Int)).bind fun r62 => (laws_markIntS n t60 r62.1).bind fun r63 => (bif (decide (r63.1 < (0 : Int))) then some (false) else (laws_eqRadioS n t61 t58).bind fun r68 => (bif (!r68) then some (false) else (bif (!(decide (g156 = w154))) then some (false) else laws_FnExactSettle_k1 n  aList0 aCoins1 w154 w255 (!(g257 == w255)) t58 t61)))
def laws_FnExactSettle_k3 (n : Nat)  (aList0 : List SRadio) (aCoins1 : List Int) (w134 : Int) (w235 : Bool) (g136 : Int) (g237 : Bool) (t38 : List SRadio) (t39 : List SRadio) (t40 : List Int) (t41 : List SRadio) : Option Bool :=
  (laws_toRadioS n aList0).bind fun r42 => (laws_eqRadioS n t39 r42).bind fun r43 => (bif (!r43) then some (false) else (laws_toIntS n aCoins1).bind fun r141 => (laws_eqIntS n t40 r141).bind fun r142 => (bif (!r142) then some (false) else laws_FnExactSettle_k2 n  aList0 aCoins1 w134 w235 g136 g237 t38 t39 t40 t41))
def laws_FnExactSettle_k4 (n : Nat)  (aList0 : List SRadio) (aCoins1 : List Int) : Option Bool :=
  (laws_toRadioS n aList0).bind fun r2 => (laws_toIntS n aCoins1).bind fun r3 => (spec_Settle n r2 r3).bind fun r4 => (laws_toRadioS n aList0).bind fun r5 => (laws_toIntS n aCoins1).bind fun r6 => (impl_Settle n r5 r6).bind fun r7 => (laws_eqRadioS n r7.1 r4.1).bind fun r8 => (bif (!r8) then some (false) else (bif (!(decide (r7.2.1 = r4.2.1))) then some (false) else (bif (!(r7.2.2 == r4.2.2)) then some (false) else laws_FnExactSettle_k3 n  aList0 aCoins1 r4.2.1 r4.2.2 r7.2.1 r7.2.2 r4.1 r5 r6 r7.1)))
def laws_FnExactSettle (n : Nat) (aList0 : List SRadio) (aCoins1 : List Int) : Option Bool :=
  (bif (decide ((aCoins1.length : Int) > (1048576 : Int))) then some (true) else (laws_szRadioS n aList0 (1048576 : Int)).bind fun r159 => (bif (decide (r159 < (0 : Int))) then some (true) else laws_FnExactSettle_k4 n  aList0 aCoins1))
def rng (a b x : Int) : Prop := a ≤ x ∧ x ≤ b
def wfSRadio (x : SRadio) : Prop := rng (-9223372036854775808) 9223372036854775807 x.Id ∧ rng (-9223372036854775808) 9223372036854775807 x.Slot ∧ (x.Hears.length ≤ 9223372036854775807 ∧ ∀ y ∈ x.Hears, rng (-9223372036854775808) 9223372036854775807 y)
end Go.Sm
end

section
set_option linter.unusedSimpArgs false
set_option linter.deprecated false
set_option linter.unusedSectionVars false
set_option linter.unusedVariables false
namespace Go.Sm
/-! ### Of the words that printed functions are made of -/
theorem w64_id {x : Int} (h1 : -9223372036854775808 ≤ x) (h2 : x ≤ 9223372036854775807) : w64 x = x := by
  show (let m := x % (2 ^ 64 : Int); if (true && decide ((2 : Int) ^ 63 ≤ m)) = true then m - 2 ^ 64 else m) = x
  simp only [Bool.true_and, decide_eq_true_eq]
  split <;> omega
theorem w64_rng (x : Int) : -9223372036854775808 ≤ w64 x ∧ w64 x ≤ 9223372036854775807 := by
  show -9223372036854775808 ≤ (let m := x % (2 ^ 64 : Int); if (true && decide ((2 : Int) ^ 63 ≤ m)) = true then m - 2 ^ 64 else m) ∧ (let m := x % (2 ^ 64 : Int); if (true && decide ((2 : Int) ^ 63 ≤ m)) = true then m - 2 ^ 64 else m) ≤ 9223372036854775807
  simp only [Bool.true_and, decide_eq_true_eq]
  split <;> omega
theorem chk_of {R : Type} {b : Bool} {x : Option R} (h : b = true) : chk b x = x := by rw [h]; rfl
theorem chk_true {R : Type} {x : Option R} : chk true x = x := rfl
theorem chk_dec {R : Type} {p : Prop} [Decidable p] {x : Option R} (h : p) : chk (decide p) x = x := chk_of (decide_eq_true h)
theorem ix_of {R : Type} {i : Int} {len : Nat} {x : Option R} (h0 : 0 ≤ i) (h1 : i < (len : Int)) : ix i len x = x := by
  unfold ix
  rw [decide_eq_true h0, decide_eq_true h1]
  rfl
theorem ix_nat {R : Type} {i len : Nat} {x : Option R} (h1 : i < len) : ix (i : Int) len x = x := ix_of (by omega) (by omega)
theorem bif_dec {α : Type} {p : Prop} [Decidable p] {x y : α} : (bif decide p then x else y) = if p then x else y := by
  by_cases h : p <;> simp [h]
theorem bif_not {α : Type} {b : Bool} {x y : α} : (bif !b then x else y) = bif b then y else x := by cases b <;> rfl
theorem bif_and {α : Type} {a b : Bool} {x y : α} : (bif a && b then x else y) = bif a then (bif b then x else y) else y := by cases a <;> rfl
theorem loopN_succ {X R : Type} (b : X → (X → Option R) → Option R) (m : Nat) (x : X) : loopN b (m + 1) x = b x (loopN b m) := rfl
/-- What holds of a loop: by what is left to go. -/
theorem loopN_ind {X R : Type} {b : X → (X → Option R) → Option R} (μ : X → Nat) (I : X → Prop) (Q : X → Option R → Prop)
    (h : ∀ x J, I x → (∀ y, I y → μ y < μ x → Q y (J y)) → Q x (b x J)) : ∀ n x, I x → μ x < n → Q x (loopN b n x)
  | 0, x, hi, hm => absurd hm (Nat.not_lt_zero _)
  | n + 1, x, hi, hm => h x (loopN b n) hi fun y hy hl => loopN_ind μ I Q h n y hy (by omega)
theorem getD_eq {α : Type} {l : List α} {i : Nat} {d : α} (h : i < l.length) : l.getD i d = l[i] := by
  simp [List.getD, h]
theorem w64_succ {k : Nat} (h : k < 9223372036854775807) : w64 ((k : Int) + 1) = ((k + 1 : Nat) : Int) := by
  rw [w64_id (by omega) (by omega)]
  rfl
theorem take_succ_getD {α : Type} {l : List α} {i : Nat} {d : α} (h : i < l.length) : l.take (i + 1) = l.take i ++ [l.getD i d] := by
  rw [List.take_succ, getD_eq h, List.getElem?_eq_getElem h]
  rfl
theorem drop_getD {α : Type} {l : List α} {i : Nat} {d : α} (h : i < l.length) : l.drop i = l.getD i d :: l.drop (i + 1) := by
  rw [getD_eq h]
  exact List.drop_eq_getElem_cons h
theorem bd_eq {α β : Type} (e : α) (f : α → β) : bd e f = f e := rfl
theorem bd_set {α β : Type} {Q : β → Prop} {F : List α → β} {p : List α} {i : Nat} {x : α} (h : ∀ l : List α, l.length = p.length → Q (F l)) : Q (bd (p.set i x) F) := h _ (by simp)
theorem bd_is {α β : Type} {Q : β → Prop} {F : α → β} {e : α} (h : ∀ v : α, v = e → Q (F v)) : Q (bd e F) := h _ rfl
theorem bd_val {α β : Type} {Q : β → Prop} {F : α → β} {e : α} (h : ∀ v : α, Q (F v)) : Q (bd e F) := h _
theorem chk_q {R : Type} {Q : Option R → Prop} {b : Bool} {x : Option R} (h : b = true) (hx : Q x) : Q (chk b x) := by rw [chk_of h]; exact hx
theorem ix_q {R : Type} {Q : Option R → Prop} {i : Int} {len : Nat} {x : Option R} (h0 : 0 ≤ i) (h1 : i < (len : Int)) (hx : Q x) : Q (ix i len x) := by rw [ix_of h0 h1]; exact hx
theorem bd_upd {α β : Type} {Q : β → Prop} {F : List α → β} {p : List α} {i : Nat} {x d : α} (hi : i < p.length) (h : ∀ l : List α, l.length = p.length → l.getD i d = x → (∀ j, j ≠ i → l.getD j d = p.getD j d) → Q (F l)) : Q (bd (p.set i x) F) :=
  h _ (by simp) (by simp [List.getD, hi]) (fun j hj => by simp [List.getD, List.getElem?_set, Ne.symm hj])
/-- A list written from the front. -/
theorem set_take {α : Type} {a : List α} {d : α} {m k : Nat} (h : k < a.length) (hm : m = a.length := by rfl) : (a.take k ++ (List.replicate m d).drop k).set k (a.getD k d) = a.take (k + 1) ++ (List.replicate m d).drop (k + 1) := by
  subst hm
  have h1 : (a.take k).length = k := by simp; omega
  rw [List.set_append_right _ _ (by omega), h1, Nat.sub_self, take_succ_getD h, List.append_assoc]
  congr 1
  rw [List.drop_eq_getElem_cons (by simp; exact h)]
  rfl
/-! ### Loops over 0 .. len, by what is left -/
/-- Steps k, k+1, .. told one after the other; J: what comes behind a step. -/
def forK {S R : Type} (step : Nat → S → (S → Option R) → Option R) (fin : S → Option R) : Nat → Nat → S → Option R
  | 0, _, s => fin s
  | m + 1, k, s => step k s fun s' => forK step fin m (k + 1) s'
theorem loop_forK {X S R : Type} {b : X → (X → Option R) → Option R} {enc : Nat → S → X} {len : Nat} {step : Nat → S → (S → Option R) → Option R} {fin : S → Option R} (I : Nat → S → Prop)
    (hstep : ∀ k s J J', k < len → I k s → (∀ s', I (k + 1) s' → J (enc (k + 1) s') = J' s') → b (enc k s) J = step k s J') (hfin : ∀ s J, I len s → b (enc len s) J = fin s) :
    ∀ m k s n, k + m = len → m < n → I k s → loopN b n (enc k s) = forK step fin m k s
  | 0, k, s, 0, _, h, _ => absurd h (Nat.lt_irrefl _)
  | 0, k, s, n + 1, hk, _, hi => by
    have hk : k = len := by omega
    subst hk
    exact hfin s _ hi
  | m + 1, k, s, 0, _, h, _ => absurd h (Nat.not_lt_zero _)
  | m + 1, k, s, n + 1, hk, hn, hi => by
    show b (enc k s) (loopN b n) = step k s fun s' => forK step fin m (k + 1) s'
    exact hstep k s _ _ (by omega) hi fun s' hi' => loop_forK I hstep hfin m (k + 1) s' n (by omega) (by omega) hi'
/-- The first k at which f answers; at none: z. -/
def scanK {R : Type} (f : Nat → Option (Option R)) (z : Option R) : Nat → Nat → Option R
  | 0, _ => z
  | m + 1, k => match f k with
    | some r => r
    | none => scanK f z m (k + 1)
theorem loop_scan {X R : Type} {b : X → (X → Option R) → Option R} {enc : Nat → X} {len : Nat} {f : Nat → Option (Option R)} {z : Option R}
    (hstep : ∀ k J, k < len → b (enc k) J = match f k with | some r => r | none => J (enc (k + 1))) (hfin : ∀ J, b (enc len) J = z) :
    ∀ m k n, k + m = len → m < n → loopN b n (enc k) = scanK f z m k
  | 0, k, 0, _, h => absurd h (Nat.lt_irrefl _)
  | 0, k, n + 1, hk, _ => by
    have hk : k = len := by omega
    subst hk
    exact hfin _
  | m + 1, k, 0, _, h => absurd h (Nat.not_lt_zero _)
  | m + 1, k, n + 1, hk, hn => by
    show b (enc k) (loopN b n) = _
    rw [hstep k _ (by omega)]
    unfold scanK
    cases f k with
    | some r => rfl
    | none => exact loop_scan hstep hfin m (k + 1) n (by omega) (by omega)
/-- Is p so of all of k, .. k + m - 1? -/
theorem scan_all {R : Type} {p : Nat → Bool} {r z : Option R} : ∀ m k, scanK (fun k => bif p k then none else some r) z m k = bif (List.range' k m).all p then z else r
  | 0, k => rfl
  | m + 1, k => by
    rw [scanK, List.range'_succ, List.all_cons]
    cases h : p k with
    | true => simp only [cond_true, Bool.true_and]; exact scan_all m (k + 1)
    | false => rfl
theorem scan_any {R : Type} {p : Nat → Bool} {r z : Option R} : ∀ m k, scanK (fun k => bif p k then some r else none) z m k = bif (List.range' k m).any p then r else z
  | 0, k => rfl
  | m + 1, k => by
    rw [scanK, List.range'_succ, List.any_cons]
    cases h : p k with
    | false => simp only [cond_false, Bool.false_or]; exact scan_any m (k + 1)
    | true => rfl
theorem mgetI_mputI {β : Type} (l : List (Int × β)) (n m : Int) (v : β) : mgetI (mputI l n v) m = if m = n then some v else mgetI l m := by
  unfold mgetI mputI
  induction l with
  | nil =>
    by_cases h : m = n <;> simp [h]
  | cons a l ih =>
    rw [List.findIdx?_cons]
    by_cases h : n = a.1
    · simp only [h, decide_true, if_true, Option.elim_some, List.set_cons_zero, List.find?_cons]
      by_cases h2 : m = a.1
      · simp [h2]
      · simp [h2]
    · simp only [h, decide_false, Bool.false_eq_true, if_false]
      cases hf : l.findIdx? (fun e => decide (n = e.1)) with
      | none =>
        rw [hf] at ih
        simp only [Option.elim_none] at ih
        simp only [Option.map_none, Option.elim_none, List.cons_append, List.find?_cons]
        by_cases h2 : m = a.1
        · have : m ≠ n := fun e => h (e ▸ h2)
          simp [h2]
          simp [h2] at this
          simp [this]
        · simp only [h2, decide_false]
          exact ih
      | some i =>
        rw [hf] at ih
        simp only [Option.elim_some] at ih
        simp only [Option.map_some, Option.elim_some, List.set_cons_succ, List.find?_cons]
        by_cases h2 : m = a.1
        · have : m ≠ n := fun e => h (e ▸ h2)
          simp [h2]
          simp [h2] at this
          simp [this]
        · simp only [h2, decide_false]
          exact ih
theorem mgetI_nil {β : Type} (m : Int) : mgetI ([] : List (Int × β)) m = none := rfl
/-! ### Chains of tests -/
theorem bif_and' {α : Type} {a b : Bool} {x y : α} : (bif a then (bif b then x else y) else y) = bif a && b then x else y := by cases a <;> rfl
theorem bif_or' {α : Type} {a b : Bool} {x y : α} : (bif a then y else (bif b then x else y)) = bif !a && b then x else y := by cases a <;> rfl
theorem bif_and2 {α : Type} {a b : Bool} {x y : α} : (bif a then (bif b then y else x) else y) = bif a && !b then x else y := by cases a <;> cases b <;> rfl
theorem bif_or2 {α : Type} {a b : Bool} {x y : α} : (bif a then y else (bif b then y else x)) = bif !a && !b then x else y := by cases a <;> cases b <;> rfl
theorem bif_some {α β : Type} {a : Bool} {x y : α} {f : α → Option β} : (bif a then some x else some y).bind f = bif a then f x else f y := by cases a <;> rfl
theorem bif_tf {a : Bool} : (bif a then some true else some false) = some a := by cases a <;> rfl
theorem bif_ft {a : Bool} : (bif a then some false else some true) = some (!a) := by cases a <;> rfl
theorem bif_sf {a b : Bool} : (bif a then some b else some false) = some (a && b) := by cases a <;> rfl
theorem all_range_succ {p : Nat → Bool} {k : Nat} : (List.range (k + 1)).all p = ((List.range k).all p && p k) := by
  rw [List.range_succ, List.all_append]
  simp
theorem any_range_succ {p : Nat → Bool} {k : Nat} : (List.range (k + 1)).any p = ((List.range k).any p || p k) := by
  rw [List.range_succ, List.any_append]
  simp
theorem all_range_not {p : Nat → Bool} {k m : Nat} (hk : k < m) (h : p k = false) : (List.range m).all p = false := by
  rw [Bool.eq_false_iff]
  intro e
  rw [List.all_eq_true] at e
  rw [e k (List.mem_range.2 hk)] at h
  cases h
theorem any_range_of {p : Nat → Bool} {k m : Nat} (hk : k < m) (h : p k = true) : (List.range m).any p = true := by
  rw [List.any_eq_true]
  exact ⟨k, List.mem_range.2 hk, h⟩
/-- A loop that looks at k = 0, 1, .. and leaves at the first that is not so. -/
theorem loop_all {R : Type} {b : Int → (Int → Option R) → Option R} {len : Nat} {p : Nat → Bool} {no yes : Option R} (hlen : len ≤ 9223372036854775807)
    (hstep : ∀ (k : Nat) (J : Int → Option R), k < len → (∀ j, j < k → p j = true) → b (k : Int) J = bif p k then J ((k + 1 : Nat) : Int) else no) (hfin : ∀ J, (∀ j, j < len → p j = true) → b (len : Int) J = yes) {n : Nat} (hn : len < n) :
    loopN b n (0 : Int) = bif (List.range len).all p then yes else no := by
  refine loopN_ind (fun x => len - x.toNat) (fun x => ∃ k : Nat, k ≤ len ∧ x = (k : Int) ∧ (List.range k).all p = true) (fun x r => r = bif (List.range len).all p then yes else no) ?_ n _ ⟨0, by omega, rfl, rfl⟩ (by simp; omega)
  rintro _ J ⟨k, hk, rfl, hb⟩ ih
  have hb' : ∀ j, j < k → p j = true := fun j hj => List.all_eq_true.1 hb j (List.mem_range.2 hj)
  by_cases h : k < len
  · rw [hstep k J h hb']
    cases hp : p k with
    | true => exact ih _ ⟨k + 1, h, rfl, by rw [all_range_succ, hb, hp]; rfl⟩ (by simp; omega)
    | false => rw [all_range_not h hp]; rfl
  · have : k = len := by omega
    subst this
    rw [hfin _ hb', hb]
    rfl
/-- The same, a state turned on the way (its invariant: I). -/
theorem loop_allS {S R : Type} {X : Type} {enc : Int → S → X} {b : X → (X → Option R) → Option R} {len : Nat} {p : Nat → Bool} {I : Nat → S → Prop} {no yes : Option R}
    (hstep : ∀ (k : Nat) (s : S) (J : X → Option R), k < len → I k s → (∀ j, j < k → p j = true) → ∃ s', (p k = true → I (k + 1) s') ∧ b (enc (k : Int) s) J = bif p k then J (enc ((k + 1 : Nat) : Int) s') else no) (hfin : ∀ s J, I len s → (∀ j, j < len → p j = true) → b (enc (len : Int) s) J = yes) {n : Nat} (hn : len < n) {s0 : S} (h0 : I 0 s0) :
    loopN b n (enc (0 : Int) s0) = bif (List.range len).all p then yes else no := by
  have key : ∀ m (k : Nat) (s : S) n, k + m = len → m < n → I k s → (List.range k).all p = true → loopN b n (enc (k : Int) s) = bif (List.range len).all p then yes else no := by
    intro m
    induction m with
    | zero =>
      intro k s n hk hn hi hb
      have hb' : ∀ j, j < k → p j = true := fun j hj => List.all_eq_true.1 hb j (List.mem_range.2 hj)
      have hk : k = len := by omega
      subst hk
      cases n with
      | zero => omega
      | succ n => rw [loopN_succ, hfin s _ hi hb', hb]; rfl
    | succ m ih =>
      intro k s n hk hn hi hb
      have hb' : ∀ j, j < k → p j = true := fun j hj => List.all_eq_true.1 hb j (List.mem_range.2 hj)
      cases n with
      | zero => omega
      | succ n =>
        rw [loopN_succ]
        obtain ⟨s', h1, h2⟩ := hstep k s (loopN b n) (by omega) hi hb'
        rw [h2]
        cases hp : p k with
        | true => exact ih (k + 1) s' n (by omega) (by omega) (h1 hp) (by rw [all_range_succ, hb, hp]; rfl)
        | false => rw [all_range_not (by omega : k < len) hp]; rfl
  exact key len 0 s0 n (by omega) hn h0 rfl
/-- A loop over 0 .. len that never leaves early; its state: I. -/
theorem loop_runS {S R : Type} {X : Type} {enc : Int → S → X} {b : X → (X → Option R) → Option R} {len : Nat} {I : Nat → S → Prop} {Q : Option R → Prop}
    (hstep : ∀ (k : Nat) (s : S) (J : X → Option R), k < len → I k s → ∃ s', I (k + 1) s' ∧ b (enc (k : Int) s) J = J (enc ((k + 1 : Nat) : Int) s')) (hfin : ∀ s J, I len s → Q (b (enc (len : Int) s) J)) {n : Nat} (hn : len < n) {s0 : S} (h0 : I 0 s0) :
    Q (loopN b n (enc (0 : Int) s0)) := by
  have key : ∀ m (k : Nat) (s : S) n, k + m = len → m < n → I k s → Q (loopN b n (enc (k : Int) s)) := by
    intro m
    induction m with
    | zero =>
      intro k s n hk hn hi
      have hk : k = len := by omega
      subst hk
      cases n with
      | zero => omega
      | succ n => rw [loopN_succ]; exact hfin s _ hi
    | succ m ih =>
      intro k s n hk hn hi
      cases n with
      | zero => omega
      | succ n =>
        rw [loopN_succ]
        obtain ⟨s', h1, h2⟩ := hstep k s (loopN b n) (by omega) hi
        rw [h2]
        exact ih (k + 1) s' n (by omega) (by omega) h1
  exact key len 0 s0 n (by omega) hn h0
/-! ### Sums over lists -/
def sumOf {α : Type} (f : α → Nat) : List α → Nat
  | [] => 0
  | a :: l => f a + sumOf f l
theorem sumOf_append {α : Type} (f : α → Nat) : ∀ a b : List α, sumOf f (a ++ b) = sumOf f a + sumOf f b
  | [], b => by simp [sumOf]
  | x :: a, b => by simp only [List.cons_append, sumOf, sumOf_append f a b]; omega
theorem sumOf_take_succ {α : Type} {f : α → Nat} {l : List α} {k : Nat} {d : α} (h : k < l.length) : sumOf f (l.take (k + 1)) = sumOf f (l.take k) + f (l.getD k d) := by
  rw [take_succ_getD (d := d) h, sumOf_append]
  simp [sumOf]
theorem sumOf_take_le {α : Type} (f : α → Nat) (l : List α) (k : Nat) : sumOf f (l.take k) ≤ sumOf f l := by
  have := sumOf_append f (l.take k) (l.drop k)
  rw [List.take_append_drop] at this
  omega
theorem sumOf_mem {α : Type} {f : α → Nat} {l : List α} {k : Nat} {d : α} (h : k < l.length) : f (l.getD k d) ≤ sumOf f l := by
  have h1 := sumOf_take_succ (f := f) (d := d) h
  have h2 := sumOf_take_le f l (k + 1)
  omega
theorem sumOf_lin {α : Type} {f g : α → Nat} {c s : Nat} (h : ∀ y, f y ≤ c * g y + s) : ∀ l : List α, sumOf f l ≤ c * sumOf g l + s * l.length
  | [] => by simp [sumOf]
  | a :: l => by
    have h1 := h a
    have h2 := sumOf_lin h l
    simp only [sumOf, List.length_cons, Nat.mul_add, Nat.mul_succ]
    omega
theorem sumOf_const {α : Type} (c : Nat) : ∀ l : List α, sumOf (fun _ => c) l = c * l.length
  | [] => by simp [sumOf]
  | a :: l => by simp only [sumOf, sumOf_const c l, List.length_cons, Nat.mul_succ]; omega
theorem getD_set {α : Type} {l : List α} {k : Nat} {x d : α} (h : k < l.length) : (l.set k x).getD k d = x := by simp [List.getD, h]
theorem getD_set_ne {α : Type} {l : List α} {k j : Nat} {x d : α} (h : j ≠ k) : (l.set k x).getD j d = l.getD j d := by simp [List.getD, List.getElem?_set, Ne.symm h]
theorem getD_mem {α : Type} {l : List α} {k : Nat} {d : α} (h : k < l.length) : l.getD k d ∈ l := by rw [getD_eq h]; exact List.getElem_mem h
theorem take_drop_set {α : Type} {a : List α} {d : α} {m k : Nat} {x : α} (h : k < a.length) (hm : m = a.length) (hx : x = a.getD k d) : (a.take k ++ (List.replicate m d).drop k).set k x = a.take (k + 1) ++ (List.replicate m d).drop (k + 1) := by
  subst hx
  exact set_take h hm
/-! ### The first that is so -/
def idxOf (p : Nat → Bool) (m : Nat) : Int := match (List.range m).find? p with
  | some k => (k : Int)
  | none => -1
theorem find_range_none {p : Nat → Bool} {m : Nat} (h : ∀ j, j < m → p j = false) : (List.range m).find? p = none := by
  rw [List.find?_eq_none]
  intro x hx
  rw [h x (List.mem_range.1 hx)]
  simp
theorem find_range_some {p : Nat → Bool} {m k : Nat} (hk : k < m) (hp : p k = true) (h : ∀ j, j < k → p j = false) : (List.range m).find? p = some k := by
  have e : m = k + (m - k) := by omega
  rw [e, List.range_add, List.find?_append, find_range_none h, Option.none_or]
  obtain ⟨r, hr⟩ : ∃ r, m - k = r + 1 := ⟨m - k - 1, by omega⟩
  rw [hr, List.range_succ_eq_map]
  simp [hp]
theorem idxOf_ge (p : Nat → Bool) (m : Nat) : decide (idxOf p m ≥ 0) = (List.range m).any p := by
  unfold idxOf
  cases h : (List.range m).find? p with
  | none =>
    rw [List.find?_eq_none] at h
    rw [show (List.range m).any p = false from by rw [List.any_eq_false]; exact h]
    rfl
  | some k =>
    have h1 := List.find?_some h
    rw [show (List.range m).any p = true from List.any_eq_true.2 ⟨k, List.mem_of_find?_eq_some h, h1⟩]
    exact decide_eq_true (by show (0 : Int) ≤ (k : Int); omega)
theorem idxOf_lt (p : Nat → Bool) (m : Nat) : decide (idxOf p m < 0) = !(List.range m).any p := by
  rw [← idxOf_ge]
  by_cases h : idxOf p m < 0
  · rw [decide_eq_true h, decide_eq_false (by omega)]; rfl
  · rw [decide_eq_false h, decide_eq_true (by omega)]; rfl
theorem find_range (p : Nat → Bool) : ∀ m, ((List.range m).find? p = none ∧ ∀ j, j < m → p j = false) ∨ ∃ k, (List.range m).find? p = some k ∧ k < m ∧ p k = true ∧ ∀ j, j < k → p j = false
  | 0 => .inl ⟨rfl, fun j hj => absurd hj (Nat.not_lt_zero _)⟩
  | m + 1 => by
    rcases find_range p m with ⟨h1, h2⟩ | ⟨k, h1, h2, h3, h4⟩
    · cases hp : p m with
      | true => exact .inr ⟨m, find_range_some (by omega) hp h2, by omega, hp, h2⟩
      | false =>
        have : ∀ j, j < m + 1 → p j = false := fun j hj => by
          by_cases e : j = m
          · rw [e]; exact hp
          · exact h2 j (by omega)
        exact .inl ⟨find_range_none this, this⟩
    · exact .inr ⟨k, find_range_some (by omega) h3 h4, by omega, h3, h4⟩
theorem idxOf_spec (p : Nat → Bool) (m : Nat) : (idxOf p m = -1 ∧ ∀ j, j < m → p j = false) ∨ ∃ k : Nat, idxOf p m = (k : Int) ∧ k < m ∧ p k = true ∧ ∀ j, j < k → p j = false := by
  unfold idxOf
  rcases find_range p m with ⟨h1, h2⟩ | ⟨k, h1, h2, h3, h4⟩
  · rw [h1]; exact .inl ⟨rfl, h2⟩
  · rw [h1]; exact .inr ⟨k, rfl, h2, h3, h4⟩
/-- A loop that looks at k = 0, 1, .. and leaves at the first that is so. -/
theorem loop_find {R : Type} {b : Int → (Int → Option R) → Option R} {len : Nat} {p : Nat → Bool} {yes : Nat → Option R} {no : Option R} (hlen : len ≤ 9223372036854775807)
    (hstep : ∀ (k : Nat) (J : Int → Option R), k < len → (∀ j, j < k → p j = false) → b (k : Int) J = bif p k then yes k else J ((k + 1 : Nat) : Int)) (hfin : ∀ J, (∀ j, j < len → p j = false) → b (len : Int) J = no) {n : Nat} (hn : len < n) :
    loopN b n (0 : Int) = match (List.range len).find? p with | some k => yes k | none => no := by
  refine loopN_ind (fun x => len - x.toNat) (fun x => ∃ k : Nat, k ≤ len ∧ x = (k : Int) ∧ ∀ j, j < k → p j = false) (fun x r => r = match (List.range len).find? p with | some k => yes k | none => no) ?_ n _ ⟨0, by omega, rfl, fun j hj => absurd hj (Nat.not_lt_zero _)⟩ (by simp; omega)
  rintro _ J ⟨k, hk, rfl, hb⟩ ih
  by_cases h : k < len
  · rw [hstep k J h hb]
    cases hp : p k with
    | false => exact ih _ ⟨k + 1, h, rfl, fun j hj => by
        by_cases e : j = k
        · rw [e]; exact hp
        · exact hb j (by omega)⟩ (by simp; omega)
    | true => rw [find_range_some h hp hb]; rfl
  · have : k = len := by omega
    subst this
    rw [hfin _ hb, find_range_none hb]
theorem loop_idx {b : Int → (Int → Option Int) → Option Int} {len : Nat} {p : Nat → Bool} (hlen : len ≤ 9223372036854775807)
    (hstep : ∀ (k : Nat) (J : Int → Option Int), k < len → (∀ j, j < k → p j = false) → b (k : Int) J = bif p k then some (k : Int) else J ((k + 1 : Nat) : Int)) (hfin : ∀ J, (∀ j, j < len → p j = false) → b (len : Int) J = some (-1)) {n : Nat} (hn : len < n) :
    loopN b n (0 : Int) = some (idxOf p len) := by
  rw [loop_find (yes := fun k => some (k : Int)) (no := some (-1)) hlen hstep hfin hn]
  unfold idxOf
  cases (List.range len).find? p <;> rfl
theorem byteAt_rng (s : ByteArray) (k : Nat) : 0 ≤ byteAt s k ∧ byteAt s k ≤ 255 := by
  unfold byteAt
  have := (s.data.getD k 0).toNat_lt
  omega
theorem range_any {α : Type} {l : List α} {d : α} {f : α → Bool} : (List.range l.length).any (fun k => f (l.getD k d)) = l.any f := by
  induction l with
  | nil => rfl
  | cons a l ih =>
    rw [List.length_cons, List.range_succ_eq_map, List.any_cons, List.any_map, List.any_cons, ← ih]
    rfl
theorem range_all {α : Type} {l : List α} {d : α} {f : α → Bool} : (List.range l.length).all (fun k => f (l.getD k d)) = l.all f := by
  induction l with
  | nil => rfl
  | cons a l ih =>
    rw [List.length_cons, List.range_succ_eq_map, List.all_cons, List.all_map, List.all_cons, ← ih]
    rfl
theorem all_congr_lt {p q : Nat → Bool} {m : Nat} (h : ∀ k, k < m → p k = q k) : (List.range m).all p = (List.range m).all q := by
  rw [Bool.eq_iff_iff, List.all_eq_true, List.all_eq_true]
  constructor
  · intro g x hx; rw [← h x (List.mem_range.1 hx)]; exact g x hx
  · intro g x hx; rw [h x (List.mem_range.1 hx)]; exact g x hx
theorem any_congr_lt {p q : Nat → Bool} {m : Nat} (h : ∀ k, k < m → p k = q k) : (List.range m).any p = (List.range m).any q := by
  rw [Bool.eq_iff_iff, List.any_eq_true, List.any_eq_true]
  constructor
  · rintro ⟨x, hx, g⟩; exact ⟨x, hx, by rw [← h x (List.mem_range.1 hx)]; exact g⟩
  · rintro ⟨x, hx, g⟩; exact ⟨x, hx, by rw [h x (List.mem_range.1 hx)]; exact g⟩
theorem guard_sz {w : Nat} {x : Option Bool} (h : w ≤ 1048576 → x = some true) : (bif decide ((if (w : Int) ≤ 1048576 then 1048576 - (w : Int) else -1) < 0) then some true else x) = some true := by
  by_cases c : (w : Int) ≤ 1048576
  · rw [if_pos c, decide_eq_false (by omega), cond_false]
    exact h (by omega)
  · rw [if_neg c]
    rfl
end Go.Sm
end

section
set_option linter.unusedSimpArgs false
set_option linter.deprecated false
set_option linter.unusedSectionVars false
set_option linter.unusedVariables false
set_option linter.unusedSimpArgs false
namespace Go.Sm
attribute [local irreducible] bd chk ix loopN
def w_LInt (a : List Int) : Nat := a.length
theorem laws_szIntS_ok {n : Nat} (a : List Int) {left : Int} (h : (a.length ≤ 9223372036854775807 ∧ ∀ y ∈ a, rng (-9223372036854775808) 9223372036854775807 y)) (h0 : 0 ≤ left) (h1 : left ≤ 1048576) (hn : 1000000000 < n) : laws_szIntS n a left = some (if (w_LInt a : Int) ≤ left then left - (w_LInt a : Int) else -1) := by
  have hw : w_LInt a = a.length := rfl
  unfold laws_szIntS
  rw [w64_id (by have := h.1; omega) (by omega), bd_eq, bif_dec]
  by_cases c : (a.length : Int) ≤ left
  · rw [if_neg (by omega), if_pos (by omega)]
    congr 1
  · rw [if_pos (by omega), if_neg (by omega)]
def w_SRadio (a : SRadio) : Nat := w_LInt a.Hears
theorem laws_szRadio_ok {n : Nat} (a : SRadio) {left : Int} (h : wfSRadio a) (h0 : 0 ≤ left) (h1 : left ≤ 1048576) (hn : 1000000000 < n) : laws_szRadio n a left = some (if (w_SRadio a : Int) ≤ left then left - (w_SRadio a : Int) else -1) := by
  have hw : w_SRadio a = w_LInt a.Hears := rfl
  unfold laws_szRadio
  rw [laws_szIntS_ok (n := n) a.Hears h.2.2 (by omega) (by omega) hn, Option.bind_some, bif_dec]
  by_cases c0 : (w_LInt a.Hears : Int) ≤ left
  case neg => rw [if_neg c0, if_pos (by omega), if_neg (by omega)]
  rw [if_pos c0, if_neg (by omega)]
  rw [if_pos (by omega)]
  try (refine congrArg some ?_; omega)
def w_LSRadio (a : List SRadio) : Nat := a.length + sumOf (fun y => w_SRadio y) a
theorem laws_szRadioS_ok {n : Nat} (a : List SRadio) {left : Int} (h : (a.length ≤ 9223372036854775807 ∧ ∀ y ∈ a, wfSRadio y)) (h0 : 0 ≤ left) (h1 : left ≤ 1048576) (hn : 1000000000 < n) : laws_szRadioS n a left = some (if (w_LSRadio a : Int) ≤ left then left - (w_LSRadio a : Int) else -1) := by
  have hw : w_LSRadio a = a.length + sumOf (fun y => w_SRadio y) a := rfl
  unfold laws_szRadioS
  rw [w64_id (by have := h.1; omega) (by omega), bd_eq, bif_dec]
  by_cases c : (a.length : Int) ≤ left
  case neg => rw [if_pos (by omega), if_neg (by omega)]
  rw [if_neg (by omega)]
  refine loopN_ind (fun x => a.length - x.2.toNat) (fun x => ∃ k : Nat, k ≤ a.length ∧ x = (left - (a.length : Int) - (sumOf (fun y => w_SRadio y) (a.take k) : Int), (k : Int)) ∧ (sumOf (fun y => w_SRadio y) (a.take k) : Int) ≤ left - (a.length : Int))
    (fun x r => r = some (if (w_LSRadio a : Int) ≤ left then left - (w_LSRadio a : Int) else -1)) ?_ n _ ⟨0, by omega, by simp [sumOf], by simp [sumOf]; omega⟩ (by simp; omega)
  rintro _ J ⟨k, hk, rfl, hb⟩ ih
  unfold laws_szRadioS_L5
  by_cases h2 : k < a.length
  · have s1 := sumOf_take_succ (f := fun y => w_SRadio y) (d := dSRadio) h2
    have s2 := sumOf_take_le (fun y => w_SRadio y) a (k + 1)
    try simp only at s1
    simp only [Int.ofNat_lt, h2, decide_true, cond_true, ix_nat h2, Int.toNat_natCast, bd_eq]
    rw [laws_szRadio_ok (n := n) (a.getD k dSRadio) (h.2 _ (getD_mem h2)) (by omega) (by omega) hn, Option.bind_some, bif_dec]
    by_cases c2 : (w_SRadio (a.getD k dSRadio) : Int) ≤ left - (a.length : Int) - (sumOf (fun y => w_SRadio y) (a.take k) : Int)
    · rw [if_pos c2, if_neg (by omega), w64_succ (by omega)]
      exact ih (_, ((k + 1 : Nat) : Int)) ⟨k + 1, h2, Prod.ext (by dsimp only; omega) rfl, by omega⟩ (by simp; omega)
    · rw [if_neg c2, if_pos (by omega), if_neg (by omega)]
  · have : k = a.length := by omega
    subst this
    rw [List.take_length] at hb ⊢
    simp only [Int.lt_irrefl, decide_false, cond_false]
    rw [if_pos (by omega)]
    congr 1
    omega
theorem laws_toIntS_ok {n : Nat} (a : List Int) (hb : w_LInt a ≤ 100000000) (hn : 1000000000 < n) : laws_toIntS n a = some a := by
  have hw0 : a.length ≤ 100000000 := by have hw : w_LInt a = a.length := rfl; omega
  unfold laws_toIntS
  rw [chk_dec (by omega), chk_dec (by omega), chk_dec (by omega)]
  refine loopN_ind (fun x => a.length - x.1.toNat) (fun x => ∃ k : Nat, k ≤ a.length ∧ x = ((k : Int), a.take k ++ (List.replicate a.length (0 : Int)).drop k)) (fun x r => r = some a) ?_ n _ ⟨0, by omega, by simp⟩ (by simp; omega)
  rintro _ J ⟨k, hk, rfl⟩ ih
  unfold laws_toIntS_L3
  dsimp only
  have hl : (a.take k ++ (List.replicate a.length (0 : Int)).drop k).length = a.length := by simp; omega
  by_cases h : k < a.length
  · have g := ih (((k + 1 : Nat) : Int), a.take (k + 1) ++ (List.replicate a.length (0 : Int)).drop (k + 1)) ⟨k + 1, h, rfl⟩ (by simp; omega)
    have hk2 : k < (a.take k ++ (List.replicate a.length (0 : Int)).drop k).length := by omega
    simp only [Int.ofNat_lt, h, hk2, decide_true, cond_true, ix_nat h, ix_nat hk2, chk_of, bd_eq, Option.bind_some, Int.toNat_natCast, w64_succ (show k < 9223372036854775807 by omega)]
    rw [take_drop_set (d := (0 : Int)) h rfl rfl]
    exact g
  · have : k = a.length := by omega
    subst this
    simp
theorem laws_toRadio_ok {n : Nat} (a : SRadio) (h : w_SRadio a ≤ 100000000) (hn : 1000000000 < n) : laws_toRadio n a = some a := by
  have hw : w_SRadio a = w_LInt a.Hears := rfl
  simp [laws_toRadio, laws_toIntS_ok (n := n) a.Hears (by omega) hn]
theorem laws_toRadioS_ok {n : Nat} (a : List SRadio) (hb : w_LSRadio a ≤ 100000000) (hn : 1000000000 < n) : laws_toRadioS n a = some a := by
  have hw0 : a.length ≤ 100000000 := by have hw : w_LSRadio a = a.length + sumOf (fun y => w_SRadio y) a := rfl; omega
  unfold laws_toRadioS
  rw [chk_dec (by omega), chk_dec (by omega), chk_dec (by omega)]
  refine loopN_ind (fun x => a.length - x.1.toNat) (fun x => ∃ k : Nat, k ≤ a.length ∧ x = ((k : Int), a.take k ++ (List.replicate a.length dSRadio).drop k)) (fun x r => r = some a) ?_ n _ ⟨0, by omega, by simp⟩ (by simp; omega)
  rintro _ J ⟨k, hk, rfl⟩ ih
  unfold laws_toRadioS_L3
  dsimp only
  have hl : (a.take k ++ (List.replicate a.length dSRadio).drop k).length = a.length := by simp; omega
  by_cases h : k < a.length
  · have g := ih (((k + 1 : Nat) : Int), a.take (k + 1) ++ (List.replicate a.length dSRadio).drop (k + 1)) ⟨k + 1, h, rfl⟩ (by simp; omega)
    have s1 := sumOf_mem (f := fun y => w_SRadio y) (d := dSRadio) h
    have hw : w_LSRadio a = a.length + sumOf (fun y => w_SRadio y) a := rfl
    try simp only at s1
    have hk2 : k < (a.take k ++ (List.replicate a.length dSRadio).drop k).length := by omega
    simp only [Int.ofNat_lt, h, hk2, decide_true, cond_true, ix_nat h, ix_nat hk2, chk_of, bd_eq, Option.bind_some, Int.toNat_natCast, w64_succ (show k < 9223372036854775807 by omega), laws_toRadio_ok (n := n) (a.getD k dSRadio) (by omega) hn]
    rw [take_drop_set (d := dSRadio) h rfl rfl]
    exact g
  · have : k = a.length := by omega
    subst this
    simp
theorem laws_eqIntS_ok {n : Nat} (a : List Int) (hb : w_LInt a ≤ 100000000) (hn : 1000000000 < n) : laws_eqIntS n a a = some true := by
  have hw0 : a.length ≤ 100000000 := by have hw : w_LInt a = a.length := rfl; omega
  unfold laws_eqIntS
  simp only [decide_true, Bool.not_true, cond_false]
  refine loopN_ind (fun x => a.length - x.toNat) (fun x => ∃ k : Nat, k ≤ a.length ∧ x = (k : Int)) (fun x r => r = some true) ?_ n _ ⟨0, by omega, rfl⟩ (by simp; omega)
  rintro _ J ⟨k, hk, rfl⟩ ih
  unfold laws_eqIntS_L4
  by_cases h : k < a.length
  · have g := ih ((k + 1 : Nat) : Int) ⟨k + 1, h, rfl⟩ (by simp; omega)
    simp only [Int.ofNat_lt, h, decide_true, cond_true, ix_nat h, Bool.not_true, cond_false, bd_eq, Option.bind_some, beq_self_eq_true, Int.toNat_natCast, w64_succ (show k < 9223372036854775807 by omega)]
    exact g
  · simp [h]
theorem laws_eqRadio_ok {n : Nat} (a : SRadio) (h : w_SRadio a ≤ 100000000) (hn : 1000000000 < n) : laws_eqRadio n a a = some true := by
  have hw : w_SRadio a = w_LInt a.Hears := rfl
  simp [laws_eqRadio, laws_eqIntS_ok (n := n) a.Hears (by omega) hn]
theorem laws_eqRadioS_ok {n : Nat} (a : List SRadio) (hb : w_LSRadio a ≤ 100000000) (hn : 1000000000 < n) : laws_eqRadioS n a a = some true := by
  have hw0 : a.length ≤ 100000000 := by have hw : w_LSRadio a = a.length + sumOf (fun y => w_SRadio y) a := rfl; omega
  unfold laws_eqRadioS
  simp only [decide_true, Bool.not_true, cond_false]
  refine loopN_ind (fun x => a.length - x.toNat) (fun x => ∃ k : Nat, k ≤ a.length ∧ x = (k : Int)) (fun x r => r = some true) ?_ n _ ⟨0, by omega, rfl⟩ (by simp; omega)
  rintro _ J ⟨k, hk, rfl⟩ ih
  unfold laws_eqRadioS_L4
  by_cases h : k < a.length
  · have g := ih ((k + 1 : Nat) : Int) ⟨k + 1, h, rfl⟩ (by simp; omega)
    have s1 := sumOf_mem (f := fun y => w_SRadio y) (d := dSRadio) h
    have hw : w_LSRadio a = a.length + sumOf (fun y => w_SRadio y) a := rfl
    try simp only at s1
    simp only [Int.ofNat_lt, h, decide_true, cond_true, ix_nat h, Bool.not_true, cond_false, bd_eq, Option.bind_some, beq_self_eq_true, Int.toNat_natCast, w64_succ (show k < 9223372036854775807 by omega), laws_eqRadio_ok (n := n) (a.getD k dSRadio) (by omega) hn]
    exact g
  · simp [h]
def Mk_LInt (n : Nat) (k : Int) (a x : Int) : Prop := x = k
def n_LInt (a : List Int) : Nat := sumOf (fun y => 1) a
theorem n_LInt_eq (a : List Int) : n_LInt a = 1 * a.length := sumOf_const 1 a
theorem n_LInt_le (a : List Int) : n_LInt a ≤ 1 * w_LInt a := by
  have h := n_LInt_eq a
  have h2 : w_LInt a = a.length := rfl
  omega
theorem laws_markIntS_i {n : Nat} (a : List Int) (k0 : Int) (hk0 : 0 ≤ k0) (hb : k0 + ((n_LInt a : Nat) : Int) ≤ 900000000) (hw : w_LInt a ≤ 100000000) (hn : 1000000000 < n) :
    ∃ p : List Int, laws_markIntS n a k0 = some (k0 + ((n_LInt a : Nat) : Int), p) ∧ p.length = a.length ∧ ∀ i, i < a.length → Mk_LInt n (k0 + ((sumOf (fun y => 1) (a.take i) : Nat) : Int)) (a.getD i (0 : Int)) (p.getD i (0 : Int)) := by
  have hw0 : a.length ≤ 100000000 := by have hw : w_LInt a = a.length := rfl; omega
  have hnA : n_LInt a = sumOf (fun y => 1) a := rfl
  unfold laws_markIntS
  refine loopN_ind (fun x => a.length - x.2.1.toNat) (fun x => ∃ (k : Nat) (p : List Int), k ≤ a.length ∧ x = (k0 + ((sumOf (fun y => 1) (a.take k) : Nat) : Int), (k : Int), p) ∧ p.length = a.length ∧
      (∀ i, i < k → Mk_LInt n (k0 + ((sumOf (fun y => 1) (a.take i) : Nat) : Int)) (a.getD i (0 : Int)) (p.getD i (0 : Int))) ∧ ∀ i, k ≤ i → p.getD i (0 : Int) = a.getD i (0 : Int))
    (fun x r => ∃ p : List Int, r = some (k0 + ((n_LInt a : Nat) : Int), p) ∧ p.length = a.length ∧ ∀ i, i < a.length → Mk_LInt n (k0 + ((sumOf (fun y => 1) (a.take i) : Nat) : Int)) (a.getD i (0 : Int)) (p.getD i (0 : Int))) ?_ n _ ⟨0, a, by omega, by simp [sumOf], rfl, by omega, fun _ _ => rfl⟩ (by simp; omega)
  rintro _ J ⟨k, p, hk, rfl, hp, hm, hrest⟩ ih
  by_cases h : k < a.length
  · have h' : k < p.length := by omega
    have s1 := sumOf_take_succ (f := fun y => 1) (d := (0 : Int)) h
    have s2 := sumOf_take_le (fun y => 1) a (k + 1)
    try simp only at s1
    obtain ⟨kk, hkk⟩ : ∃ kk : Int, kk = k0 + ((sumOf (fun y => 1) (a.take k) : Nat) : Int) := ⟨_, rfl⟩
    have hpk := hrest k (Nat.le_refl _)
    have step : ∀ (K : Int → List Int → Option (Int × List Int)) (J : Int → Int → List Int → Option (Int × List Int)), laws_markIntS_L2 n K J kk (k : Int) p = J (kk + 1) ((k : Int) + 1) (p.set k (kk)) := fun K J => by
      unfold laws_markIntS_L2
      simp (disch := omega) only [Int.ofNat_lt, h', decide_true, cond_true, ix_nat h', List.length_set, chk_of, chk_true, bd_eq, getD_set h', List.set_set, hpk, Int.toNat_natCast, w64_id, Int.add_assoc, Int.reduceAdd, Option.bind_some]
    dsimp only
    rw [← hkk]
    refine (congrArg (fun z => ∃ q : List Int, z = some (k0 + ((n_LInt a : Nat) : Int), q) ∧ q.length = a.length ∧ ∀ i, i < a.length → Mk_LInt n (k0 + ((sumOf (fun y => 1) (a.take i) : Nat) : Int)) (a.getD i (0 : Int)) (q.getD i (0 : Int))) (step _ _)).mpr ?_
    refine ih _ ⟨k + 1, _, h, Prod.ext (by dsimp only; omega) (Prod.ext (by dsimp only; omega) rfl), by simpa using hp, fun i hi => ?_, fun i hi => ?_⟩ (by dsimp only; omega)
    · by_cases e : i = k
      · subst e
        rw [getD_set h', ← hkk]
        unfold Mk_LInt
        exact rfl
      · rw [getD_set_ne e]
        exact hm i (by omega)
    · rw [getD_set_ne (by omega)]
      exact hrest i (by omega)
  · have : k = a.length := by omega
    subst this
    unfold laws_markIntS_L2
    simp only [hp, Int.lt_irrefl, decide_false, cond_false]
    rw [List.take_length]
    exact ⟨p, rfl, hp, hm⟩
theorem laws_heldIntS_i {n : Nat} (a p : List Int) (hp : p.length = a.length) (k0 : Int) (hk0 : 0 ≤ k0) (hb : k0 + ((n_LInt a : Nat) : Int) ≤ 900000000) (hw : w_LInt a ≤ 100000000) (hn : 1000000000 < n)
    (hm : ∀ i, i < a.length → Mk_LInt n (k0 + ((sumOf (fun y => 1) (a.take i) : Nat) : Int)) (a.getD i (0 : Int)) (p.getD i (0 : Int))) : laws_heldIntS n p k0 = some (k0 + ((n_LInt a : Nat) : Int)) := by
  have hw0 : a.length ≤ 100000000 := by have hw : w_LInt a = a.length := rfl; omega
  have hnA : n_LInt a = sumOf (fun y => 1) a := rfl
  unfold laws_heldIntS
  refine loopN_ind (fun x => a.length - x.2.toNat) (fun x => ∃ (k : Nat), k ≤ a.length ∧ x = (k0 + ((sumOf (fun y => 1) (a.take k) : Nat) : Int), (k : Int)))
    (fun x r => r = some (k0 + ((n_LInt a : Nat) : Int))) ?_ n _ ⟨0, by omega, by simp [sumOf]⟩ (by simp; omega)
  rintro _ J ⟨k, hk, rfl⟩ ih
  by_cases h : k < a.length
  · have h' : k < p.length := by omega
    have s1 := sumOf_take_succ (f := fun y => 1) (d := (0 : Int)) h
    have s2 := sumOf_take_le (fun y => 1) a (k + 1)
    try simp only at s1
    have hmk := hm k h
    unfold Mk_LInt at hmk
    obtain ⟨kk, hkk⟩ : ∃ kk : Int, kk = k0 + ((sumOf (fun y => 1) (a.take k) : Nat) : Int) := ⟨_, rfl⟩
    rw [← hkk] at hmk
    try simp (disch := omega) only [Int.add_assoc, Int.reduceAdd] at hmk
    have e0 := hmk
    have step : ∀ (K K2 : Int → Option Int) (J : Int → Int → Option Int), laws_heldIntS_L2 n K K2 J p kk (k : Int) = J (kk + 1) ((k : Int) + 1) := fun K K2 J => by
      unfold laws_heldIntS_L2
      simp (disch := omega) only [Int.ofNat_lt, h', decide_true, cond_true, ix_nat h', bd_eq, Int.toNat_natCast, w64_id, Int.add_assoc, Int.reduceAdd, Option.bind_some, Bool.not_true, cond_false, beq_self_eq_true, decide_eq_false_iff_not, Int.not_lt, bif_dec, if_neg, e0]
    dsimp only
    rw [← hkk]
    refine (step _ _ _).trans ?_
    exact ih (_, _) ⟨k + 1, h, Prod.ext (by dsimp only; omega) (by dsimp only; omega)⟩ (by dsimp only; omega)
  · have : k = a.length := by omega
    subst this
    unfold laws_heldIntS_L2
    simp only [hp, Int.lt_irrefl, decide_false, cond_false]
    rw [List.take_length]
    rfl
theorem laws_markIntS_ok {n : Nat} (a : List Int) (k0 : Int) (hk0 : 0 ≤ k0) (hb : k0 + ((n_LInt a : Nat) : Int) ≤ 900000000) (hw : w_LInt a ≤ 100000000) (hn : 1000000000 < n) : ∃ p : List Int, laws_markIntS n a k0 = some (k0 + ((n_LInt a : Nat) : Int), p) ∧ laws_heldIntS n p k0 = some (k0 + ((n_LInt a : Nat) : Int)) := by
  obtain ⟨p, h1, h2, h3⟩ := laws_markIntS_i (n := n) a k0 hk0 hb hw hn
  exact ⟨p, h1, laws_heldIntS_i a p h2 k0 hk0 hb hw hn h3⟩
def Mk_LSRadio (n : Nat) (k : Int) (a x : SRadio) : Prop := x.Id = k ∧ x.Slot = k + 1 ∧ laws_heldIntS n x.Hears (k + 2) = some (k + 2 + ((n_LInt a.Hears : Nat) : Int))
def n_LSRadio (a : List SRadio) : Nat := sumOf (fun y => 2 + n_LInt y.Hears) a
theorem n_LSRadio_le (a : List SRadio) : n_LSRadio a ≤ 2 * w_LSRadio a := by
  have h := sumOf_lin (f := fun y : SRadio => 2 + n_LInt y.Hears) (g := fun y : SRadio => w_SRadio y) (c := 1) (s := 2) (fun y => by have q0 := n_LInt_le y.Hears; have hw : w_SRadio y = w_LInt y.Hears := rfl; show 2 + n_LInt y.Hears ≤ 1 * (w_SRadio y) + 2; omega) a
  have h1 : n_LSRadio a = sumOf (fun y : SRadio => 2 + n_LInt y.Hears) a := rfl
  have h2 : w_LSRadio a = a.length + sumOf (fun y : SRadio => w_SRadio y) a := rfl
  omega
theorem laws_markRadioS_i {n : Nat} (a : List SRadio) (k0 : Int) (hk0 : 0 ≤ k0) (hb : k0 + ((n_LSRadio a : Nat) : Int) ≤ 900000000) (hw : w_LSRadio a ≤ 100000000) (hn : 1000000000 < n) :
    ∃ p : List SRadio, laws_markRadioS n a k0 = some (k0 + ((n_LSRadio a : Nat) : Int), p) ∧ p.length = a.length ∧ ∀ i, i < a.length → Mk_LSRadio n (k0 + ((sumOf (fun y => 2 + n_LInt y.Hears) (a.take i) : Nat) : Int)) (a.getD i dSRadio) (p.getD i dSRadio) := by
  have hw0 : a.length ≤ 100000000 := by have hw : w_LSRadio a = a.length + sumOf (fun y => w_SRadio y) a := rfl; omega
  have hnA : n_LSRadio a = sumOf (fun y => 2 + n_LInt y.Hears) a := rfl
  unfold laws_markRadioS
  refine loopN_ind (fun x => a.length - x.2.1.toNat) (fun x => ∃ (k : Nat) (p : List SRadio), k ≤ a.length ∧ x = (k0 + ((sumOf (fun y => 2 + n_LInt y.Hears) (a.take k) : Nat) : Int), (k : Int), p) ∧ p.length = a.length ∧
      (∀ i, i < k → Mk_LSRadio n (k0 + ((sumOf (fun y => 2 + n_LInt y.Hears) (a.take i) : Nat) : Int)) (a.getD i dSRadio) (p.getD i dSRadio)) ∧ ∀ i, k ≤ i → p.getD i dSRadio = a.getD i dSRadio)
    (fun x r => ∃ p : List SRadio, r = some (k0 + ((n_LSRadio a : Nat) : Int), p) ∧ p.length = a.length ∧ ∀ i, i < a.length → Mk_LSRadio n (k0 + ((sumOf (fun y => 2 + n_LInt y.Hears) (a.take i) : Nat) : Int)) (a.getD i dSRadio) (p.getD i dSRadio)) ?_ n _ ⟨0, a, by omega, by simp [sumOf], rfl, by omega, fun _ _ => rfl⟩ (by simp; omega)
  rintro _ J ⟨k, p, hk, rfl, hp, hm, hrest⟩ ih
  by_cases h : k < a.length
  · have h' : k < p.length := by omega
    have s1 := sumOf_take_succ (f := fun y => 2 + n_LInt y.Hears) (d := dSRadio) h
    have s2 := sumOf_take_le (fun y => 2 + n_LInt y.Hears) a (k + 1)
    try simp only at s1
    obtain ⟨kk, hkk⟩ : ∃ kk : Int, kk = k0 + ((sumOf (fun y => 2 + n_LInt y.Hears) (a.take k) : Nat) : Int) := ⟨_, rfl⟩
    have hpk := hrest k (Nat.le_refl _)
    have s3 := sumOf_mem (f := fun y => w_SRadio y) (d := dSRadio) h
    have hwx : w_LSRadio a = a.length + sumOf (fun y => w_SRadio y) a := rfl
    try simp only at s3
    have hwy : w_SRadio (a.getD k dSRadio) = w_LInt ((a.getD k dSRadio).Hears) := rfl
    obtain ⟨t0, ht0, hh0⟩ := laws_markIntS_ok (n := n) (a.getD k dSRadio).Hears (kk + 2) (by omega) (by omega) (by omega) hn
    have step : ∀ (K : Int → List SRadio → Option (Int × List SRadio)) (J : Int → Int → List SRadio → Option (Int × List SRadio)), laws_markRadioS_L2 n K J kk (k : Int) p = J (kk + 2 + ((n_LInt ((a.getD k dSRadio).Hears) : Nat) : Int)) ((k : Int) + 1) (p.set k (⟨(kk), (kk + 1), (t0)⟩ : SRadio)) := fun K J => by
      unfold laws_markRadioS_L2
      simp (disch := omega) only [laws_markRadioS_k0, Int.ofNat_lt, h', decide_true, cond_true, ix_nat h', List.length_set, chk_of, chk_true, bd_eq, getD_set h', List.set_set, hpk, Int.toNat_natCast, w64_id, Int.add_assoc, Int.reduceAdd, Option.bind_some, ht0]
    dsimp only
    rw [← hkk]
    refine (congrArg (fun z => ∃ q : List SRadio, z = some (k0 + ((n_LSRadio a : Nat) : Int), q) ∧ q.length = a.length ∧ ∀ i, i < a.length → Mk_LSRadio n (k0 + ((sumOf (fun y => 2 + n_LInt y.Hears) (a.take i) : Nat) : Int)) (a.getD i dSRadio) (q.getD i dSRadio)) (step _ _)).mpr ?_
    refine ih _ ⟨k + 1, _, h, Prod.ext (by dsimp only; omega) (Prod.ext (by dsimp only; omega) rfl), by simpa using hp, fun i hi => ?_, fun i hi => ?_⟩ (by dsimp only; omega)
    · by_cases e : i = k
      · subst e
        rw [getD_set h', ← hkk]
        unfold Mk_LSRadio
        exact ⟨rfl, rfl, hh0⟩
      · rw [getD_set_ne e]
        exact hm i (by omega)
    · rw [getD_set_ne (by omega)]
      exact hrest i (by omega)
  · have : k = a.length := by omega
    subst this
    unfold laws_markRadioS_L2
    simp only [hp, Int.lt_irrefl, decide_false, cond_false]
    rw [List.take_length]
    exact ⟨p, rfl, hp, hm⟩
theorem laws_heldRadioS_i {n : Nat} (a p : List SRadio) (hp : p.length = a.length) (k0 : Int) (hk0 : 0 ≤ k0) (hb : k0 + ((n_LSRadio a : Nat) : Int) ≤ 900000000) (hw : w_LSRadio a ≤ 100000000) (hn : 1000000000 < n)
    (hm : ∀ i, i < a.length → Mk_LSRadio n (k0 + ((sumOf (fun y => 2 + n_LInt y.Hears) (a.take i) : Nat) : Int)) (a.getD i dSRadio) (p.getD i dSRadio)) : laws_heldRadioS n p k0 = some (k0 + ((n_LSRadio a : Nat) : Int)) := by
  have hw0 : a.length ≤ 100000000 := by have hw : w_LSRadio a = a.length + sumOf (fun y => w_SRadio y) a := rfl; omega
  have hnA : n_LSRadio a = sumOf (fun y => 2 + n_LInt y.Hears) a := rfl
  unfold laws_heldRadioS
  refine loopN_ind (fun x => a.length - x.2.toNat) (fun x => ∃ (k : Nat), k ≤ a.length ∧ x = (k0 + ((sumOf (fun y => 2 + n_LInt y.Hears) (a.take k) : Nat) : Int), (k : Int)))
    (fun x r => r = some (k0 + ((n_LSRadio a : Nat) : Int))) ?_ n _ ⟨0, by omega, by simp [sumOf]⟩ (by simp; omega)
  rintro _ J ⟨k, hk, rfl⟩ ih
  by_cases h : k < a.length
  · have h' : k < p.length := by omega
    have s1 := sumOf_take_succ (f := fun y => 2 + n_LInt y.Hears) (d := dSRadio) h
    have s2 := sumOf_take_le (fun y => 2 + n_LInt y.Hears) a (k + 1)
    try simp only at s1
    have hmk := hm k h
    unfold Mk_LSRadio at hmk
    obtain ⟨kk, hkk⟩ : ∃ kk : Int, kk = k0 + ((sumOf (fun y => 2 + n_LInt y.Hears) (a.take k) : Nat) : Int) := ⟨_, rfl⟩
    rw [← hkk] at hmk
    try simp (disch := omega) only [Int.add_assoc, Int.reduceAdd] at hmk
    obtain ⟨e0, e1, e2⟩ := hmk
    have step : ∀ (K K2 : Int → Option Int) (J : Int → Int → Option Int), laws_heldRadioS_L2 n K K2 J p kk (k : Int) = J (kk + 2 + ((n_LInt ((a.getD k dSRadio).Hears) : Nat) : Int)) ((k : Int) + 1) := fun K K2 J => by
      unfold laws_heldRadioS_L2
      simp (disch := omega) only [laws_heldRadioS_k0, Int.ofNat_lt, h', decide_true, cond_true, ix_nat h', bd_eq, Int.toNat_natCast, w64_id, Int.add_assoc, Int.reduceAdd, Option.bind_some, Bool.not_true, cond_false, beq_self_eq_true, decide_eq_false_iff_not, Int.not_lt, bif_dec, if_neg, e0, e1, e2]
    dsimp only
    rw [← hkk]
    refine (step _ _ _).trans ?_
    exact ih (_, _) ⟨k + 1, h, Prod.ext (by dsimp only; omega) (by dsimp only; omega)⟩ (by dsimp only; omega)
  · have : k = a.length := by omega
    subst this
    unfold laws_heldRadioS_L2
    simp only [hp, Int.lt_irrefl, decide_false, cond_false]
    rw [List.take_length]
    rfl
theorem laws_markRadioS_ok {n : Nat} (a : List SRadio) (k0 : Int) (hk0 : 0 ≤ k0) (hb : k0 + ((n_LSRadio a : Nat) : Int) ≤ 900000000) (hw : w_LSRadio a ≤ 100000000) (hn : 1000000000 < n) : ∃ p : List SRadio, laws_markRadioS n a k0 = some (k0 + ((n_LSRadio a : Nat) : Int), p) ∧ laws_heldRadioS n p k0 = some (k0 + ((n_LSRadio a : Nat) : Int)) := by
  obtain ⟨p, h1, h2, h3⟩ := laws_markRadioS_i (n := n) a k0 hk0 hb hw hn
  exact ⟨p, h1, laws_heldRadioS_i a p h2 k0 hk0 hb hw hn h3⟩
end Go.Sm
end

section
set_option linter.unusedSimpArgs false
set_option linter.deprecated false
set_option linter.unusedSectionVars false
set_option linter.unusedVariables false
set_option linter.unusedSimpArgs false
namespace Go.Sm
attribute [local irreducible] bd chk ix loopN
theorem in_spec (n : Nat) (x a b : Int) : spec_l1In n x a b = some (decide (a ≤ x ∧ x ≤ b)) := by
  unfold spec_l1In
  by_cases h0 : a ≤ x <;> by_cases h1 : x ≤ b <;> simp [h0, h1]
theorem in_impl (n : Nat) (x a b : Int) : impl_in n x a b = some (decide (a ≤ x ∧ x ≤ b)) := by
  unfold impl_in
  by_cases h0 : a ≤ x <;> by_cases h1 : x ≤ b <;> simp [h0, h1]
def hasB (l : List Int) (x : Int) : Bool := (List.range l.length).any fun k => decide (l.getD k 0 = x)
theorem has_spec {n : Nat} (l : List Int) (x : Int) (hl : l.length ≤ 100000000) (hn : 1000000000 < n) : spec_l9Has n l x = some (hasB l x) := by
  unfold spec_l9Has hasB
  rw [loop_find (p := fun k => decide (l.getD k 0 = x)) (len := l.length) (yes := fun _ => some true) (no := some false) (by omega) (fun k J h _ => ?_) (fun J _ => ?_) (by omega)]
  · rcases find_range (fun k => decide (l.getD k 0 = x)) l.length with ⟨h1, h2⟩ | ⟨k, h1, h2, h3, h4⟩
    · rw [h1, show (List.range l.length).any (fun k => decide (l.getD k 0 = x)) = false from by rw [List.any_eq_false]; intro y hy; rw [h2 y (List.mem_range.1 hy)]; simp]
    · rw [h1, any_range_of h2 h3]
  · unfold spec_l9Has_L2
    simp only [Int.ofNat_lt, h, decide_true, cond_true, ix_nat h, Int.toNat_natCast, w64_succ (show k < 9223372036854775807 by omega)]
  · unfold spec_l9Has_L2
    simp only [Int.lt_irrefl, decide_false, cond_false]
theorem contains_impl {n : Nat} (l : List Int) (x : Int) (hl : l.length ≤ 100000000) (hn : 1000000000 < n) : slices_Contains_int_int n l x = some (hasB l x) := by
  unfold slices_Contains_int_int slices_Index_int_int hasB
  rw [loop_idx (p := fun k => decide (l.getD k 0 = x)) (len := l.length) (by omega) (fun k J h _ => ?_) (fun J _ => ?_) (by omega)]
  · rw [Option.bind_some, idxOf_ge]
  · unfold slices_Index_int_int_L2
    simp only [Int.ofNat_lt, h, decide_true, cond_true, ix_nat h, Int.toNat_natCast, w64_succ (show k < 9223372036854775807 by omega)]
    rw [show decide (x = l.getD k 0) = decide (l.getD k 0 = x) from by simp only [decide_eq_decide]; exact ⟨Eq.symm, Eq.symm⟩]
  · unfold slices_Index_int_int_L2
    simp only [Int.lt_irrefl, decide_false, cond_false]
abbrev rad (l : List SRadio) (i : Nat) : SRadio := l.getD i dSRadio
abbrev hrs (l : List SRadio) (i k : Nat) : Int := (rad l i).Hears.getD k 0
def inB (l : List SRadio) (x : Int) : Bool := decide (0 ≤ x ∧ x ≤ w64 ((l.length : Int) - 1))
def hearB (l : List SRadio) (i k : Nat) : Bool := inB l (hrs l i k) && (!decide (hrs l i k = (i : Int)) && ((decide (k = 0) || !decide (hrs l i (k - 1) ≥ hrs l i k)) && hasB (rad l (hrs l i k).toNat).Hears (i : Int)))
def radioB (l : List SRadio) (i : Nat) : Bool := decide (1 ≤ (rad l i).Id ∧ (rad l i).Id ≤ 999999999) && ((decide (i = 0) || !decide ((rad l (i - 1)).Id ≥ (rad l i).Id)) && (decide (0 ≤ (rad l i).Slot ∧ (rad l i).Slot ≤ 19) && (List.range (rad l i).Hears.length).all (hearB l i)))
def radiosB (l : List SRadio) : Bool := decide (1 ≤ (l.length : Int) ∧ (l.length : Int) ≤ 24) && (List.range l.length).all (radioB l)
theorem in_lt {l : List SRadio} {x : Int} (hl : 1 ≤ (l.length : Int) ∧ (l.length : Int) ≤ 24) (h : inB l x = true) : 0 ≤ x ∧ x < (l.length : Int) := by
  have := of_decide_eq_true h
  rw [w64_id (by omega) (by omega)] at this
  omega
structure RSz (l : List SRadio) : Prop where
  len : l.length ≤ 1048576
  each : ∀ i, (rad l i).Hears.length ≤ 1048576
theorem rSz {l : List SRadio} (h : w_LSRadio l ≤ 1048576) : RSz l := by
  have h1 : w_LSRadio l = l.length + sumOf (fun y => w_SRadio y) l := rfl
  refine ⟨by omega, fun i => ?_⟩
  by_cases hi : i < l.length
  · have s := sumOf_mem (f := fun y => w_SRadio y) (d := dSRadio) hi
    have h2 : w_SRadio (l.getD i dSRadio) = (rad l i).Hears.length := rfl
    try simp only at s
    omega
  · have : rad l i = dSRadio := by simp [rad, List.getD, List.getElem?_eq_none (Nat.le_of_not_lt hi)]
    rw [this]
    exact Nat.zero_le _
theorem hears_spec {R : Type} {n : Nat} (kx : Option R) (kxr : Bool → Option R) (l : List SRadio) (i : Nat) (hl : 1 ≤ (l.length : Int) ∧ (l.length : Int) ≤ 24) (hz : RSz l) (hn : 1000000000 < n) :
    loopN (fun (x : Int) J' => spec_RadiosOk_L10 n kx (fun t => kxr t) J' l (i : Int) x (rad l i)) n (0 : Int) = bif (List.range (rad l i).Hears.length).all (hearB l i) then kx else kxr false := by
  have h1 := hz.each i
  rw [loop_all (p := hearB l i) (len := (rad l i).Hears.length) (no := kxr false) (yes := kx) (by omega) (fun k J h _ => ?_) (fun J _ => ?_) (by omega)]
  · unfold spec_RadiosOk_L10 spec_RadiosOk_k0 hearB
    have eo : decide (0 ≤ (rad l i).Hears.getD k 0 ∧ (rad l i).Hears.getD k 0 ≤ w64 ((l.length : Int) - 1)) = inB l (hrs l i k) := rfl
    simp only [Int.ofNat_lt, h, decide_true, cond_true, ix_nat h, Int.toNat_natCast, bd_eq, in_spec, Option.bind_some, eo]
    cases ho : inB l (hrs l i k) with
    | false => rfl
    | true =>
      obtain ⟨g0, g1⟩ := in_lt hl ho
      have g2 := hz.each (hrs l i k).toNat
      simp only [Bool.not_true, cond_false, Bool.true_and, ix_of g0 g1, has_spec _ _ (show (rad l (hrs l i k).toNat).Hears.length ≤ 100000000 by omega) hn, Option.bind_some]
      cases k with
      | zero =>
        simp only [show ¬ ((0 : Nat) : Int) > 0 by omega, decide_false, cond_false, decide_true, Bool.true_or, Bool.true_and, w64_succ (show 0 < 9223372036854775807 by omega), bif_not, bif_and', bif_or', Bool.not_not]
      | succ k =>
        have e3 : w64 (((k + 1 : Nat) : Int) - 1) = (k : Int) := by rw [w64_id (by omega) (by omega)]; omega
        simp only [show ((k + 1 : Nat) : Int) > 0 by omega, decide_true, cond_true, e3, ix_nat (show k < (rad l i).Hears.length by omega), Int.toNat_natCast, decide_false, Nat.succ_ne_zero, Nat.add_sub_cancel, Bool.false_or, w64_succ (show k + 1 < 9223372036854775807 by omega), bif_not, bif_and', bif_or', Bool.not_not]
  · unfold spec_RadiosOk_L10
    simp only [Int.lt_irrefl, decide_false, cond_false]
theorem radios_spec {n : Nat} (l : List SRadio) (hz : RSz l) (hn : 1000000000 < n) : spec_RadiosOk n l = some (radiosB l) := by
  have hlen := hz.len
  unfold spec_RadiosOk radiosB
  rw [in_spec, Option.bind_some]
  by_cases hl : 1 ≤ (l.length : Int) ∧ (l.length : Int) ≤ 24
  · rw [decide_eq_true hl]
    simp only [Bool.not_true, cond_false, Bool.true_and]
    rw [loop_all (p := radioB l) (len := l.length) (no := some false) (yes := some true) (by omega) (fun k J h _ => ?_) (fun J _ => ?_) (by omega)]
    · rw [bif_tf]
    · have hh := fun kx => hears_spec (n := n) kx (fun t => some t) l k hl hz hn
      unfold spec_RadiosOk_L4 spec_RadiosOk_k1 radioB
      cases k with
      | zero =>
        simp only [Int.ofNat_lt, h, decide_true, cond_true, ix_nat h, bd_eq, Int.toNat_natCast, in_spec, Option.bind_some, w64_succ (show 0 < 9223372036854775807 by omega), show ¬ ((0 : Nat) : Int) > 0 by omega, decide_false, cond_false, hh, Bool.true_or, Bool.true_and, bif_not, bif_and', bif_or', Bool.not_not, Bool.and_assoc]
      | succ k =>
        have e3 : w64 (((k + 1 : Nat) : Int) - 1) = (k : Int) := by rw [w64_id (by omega) (by omega)]; omega
        simp only [Int.ofNat_lt, h, decide_true, cond_true, ix_nat h, bd_eq, Int.toNat_natCast, in_spec, Option.bind_some, w64_succ (show k + 1 < 9223372036854775807 by omega), show ((k + 1 : Nat) : Int) > 0 by omega, e3, ix_nat (show k < l.length by omega), hh, decide_false, Nat.succ_ne_zero, Nat.add_sub_cancel, Bool.false_or, bif_not, bif_and', bif_or', Bool.not_not, Bool.and_assoc]
    · unfold spec_RadiosOk_L4
      simp only [Int.lt_irrefl, decide_false, cond_false]
  · rw [decide_eq_false hl]; rfl
theorem hears_impl {R : Type} {n : Nat} (kx : Option R) (kxr : Bool → Option R) (l : List SRadio) (t26 : List SRadio) (t27 t28 : Int) (i : Nat) (hl : 1 ≤ (l.length : Int) ∧ (l.length : Int) ≤ 24) (hz : RSz l) (hn : 1000000000 < n) :
    loopN (fun (x : Int) J' => impl_RadiosOk_L9 n kx (fun t => kxr t) J' l (i : Int) t26 t27 t28 (rad l i).Hears ((rad l i).Hears.length : Int) x (rad l i)) n (0 : Int) = bif (List.range (rad l i).Hears.length).all (hearB l i) then kx else kxr false := by
  have h1 := hz.each i
  rw [loop_all (p := hearB l i) (len := (rad l i).Hears.length) (no := kxr false) (yes := kx) (by omega) (fun k J h _ => ?_) (fun J _ => ?_) (by omega)]
  · unfold impl_RadiosOk_L9 impl_RadiosOk_k0 hearB
    have eo : decide (0 ≤ (rad l i).Hears.getD k 0 ∧ (rad l i).Hears.getD k 0 ≤ w64 ((l.length : Int) - 1)) = inB l (hrs l i k) := rfl
    simp only [Int.ofNat_lt, h, decide_true, cond_true, ix_nat h, Int.toNat_natCast, bd_eq, in_impl, Option.bind_some, eo]
    cases ho : inB l (hrs l i k) with
    | false => rfl
    | true =>
      obtain ⟨g0, g1⟩ := in_lt hl ho
      have g2 := hz.each (hrs l i k).toNat
      simp only [Bool.not_true, cond_false, Bool.true_and, ix_of g0 g1, contains_impl _ _ (show (rad l (hrs l i k).toNat).Hears.length ≤ 100000000 by omega) hn, Option.bind_some]
      cases k with
      | zero =>
        simp only [show ¬ ((0 : Nat) : Int) > 0 by omega, decide_false, cond_false, decide_true, Bool.true_or, Bool.true_and, w64_succ (show 0 < 9223372036854775807 by omega), bif_not, bif_and', bif_or', Bool.not_not]
      | succ k =>
        have e3 : w64 (((k + 1 : Nat) : Int) - 1) = (k : Int) := by rw [w64_id (by omega) (by omega)]; omega
        simp only [show ((k + 1 : Nat) : Int) > 0 by omega, decide_true, cond_true, e3, ix_nat (show k < (rad l i).Hears.length by omega), Int.toNat_natCast, decide_false, Nat.succ_ne_zero, Nat.add_sub_cancel, Bool.false_or, w64_succ (show k + 1 < 9223372036854775807 by omega), bif_not, bif_and', bif_or', Bool.not_not]
  · unfold impl_RadiosOk_L9
    simp only [Int.lt_irrefl, decide_false, cond_false]
theorem id_impl (n : Nat) (x : Int) : impl_idOk n x = some (decide (1 ≤ x ∧ x ≤ 999999999)) := by
  unfold impl_idOk
  rw [in_impl]; rfl
theorem slot_impl (n : Nat) (x : Int) : impl_slotOk n x = some (decide (0 ≤ x ∧ x ≤ 19)) := by
  unfold impl_slotOk
  rw [in_impl]; rfl
theorem radios_impl {n : Nat} (l : List SRadio) (hz : RSz l) (hn : 1000000000 < n) : impl_RadiosOk n l = some (radiosB l) := by
  have hlen := hz.len
  unfold impl_RadiosOk radiosB
  rw [in_impl, Option.bind_some]
  by_cases hl : 1 ≤ (l.length : Int) ∧ (l.length : Int) ≤ 24
  · rw [decide_eq_true hl]
    simp only [Bool.not_true, cond_false, Bool.true_and]
    rw [loop_all (p := radioB l) (len := l.length) (no := some false) (yes := some true) (by omega) (fun k J h _ => ?_) (fun J _ => ?_) (by omega)]
    · rw [bif_tf]
    · have hh := fun kx t26 t27 t28 => hears_impl (n := n) kx (fun t => some t) l t26 t27 t28 k hl hz hn
      unfold impl_RadiosOk_L4 impl_RadiosOk_k1 radioB
      cases k with
      | zero =>
        simp only [Int.ofNat_lt, h, decide_true, cond_true, ix_nat h, bd_eq, Int.toNat_natCast, id_impl, slot_impl, Option.bind_some, w64_succ (show 0 < 9223372036854775807 by omega), show ¬ ((0 : Nat) : Int) > 0 by omega, decide_false, cond_false, hh, Bool.true_or, Bool.true_and, bif_not, bif_and', bif_or', Bool.not_not, Bool.and_assoc]
      | succ k =>
        have e3 : w64 (((k + 1 : Nat) : Int) - 1) = (k : Int) := by rw [w64_id (by omega) (by omega)]; omega
        simp only [Int.ofNat_lt, h, decide_true, cond_true, ix_nat h, bd_eq, Int.toNat_natCast, id_impl, slot_impl, Option.bind_some, w64_succ (show k + 1 < 9223372036854775807 by omega), show ((k + 1 : Nat) : Int) > 0 by omega, e3, ix_nat (show k < l.length by omega), hh, decide_false, Nat.succ_ne_zero, Nat.add_sub_cancel, Bool.false_or, bif_not, bif_and', bif_or', Bool.not_not, Bool.and_assoc]
    · unfold impl_RadiosOk_L4
      simp only [Int.lt_irrefl, decide_false, cond_false]
  · rw [decide_eq_false hl]; rfl
/-- What a good list of radios gives. -/
theorem radios_good {l : List SRadio} (h : radiosB l = true) : (1 ≤ (l.length : Int) ∧ (l.length : Int) ≤ 24) ∧ (∀ i, i < l.length → 0 ≤ (rad l i).Slot ∧ (rad l i).Slot ≤ 19) ∧ ∀ i k, i < l.length → k < (rad l i).Hears.length → 0 ≤ hrs l i k ∧ hrs l i k < (l.length : Int) := by
  unfold radiosB at h
  rw [Bool.and_eq_true] at h
  have h1 := of_decide_eq_true h.1
  have h2 := List.all_eq_true.1 h.2
  refine ⟨h1, fun i hi => ?_, fun i k hi hk => ?_⟩
  · have h3 := h2 i (List.mem_range.2 hi)
    unfold radioB at h3
    rw [Bool.and_eq_true, Bool.and_eq_true, Bool.and_eq_true] at h3
    exact of_decide_eq_true h3.2.2.1
  · have h3 := h2 i (List.mem_range.2 hi)
    unfold radioB at h3
    rw [Bool.and_eq_true, Bool.and_eq_true, Bool.and_eq_true] at h3
    have h4 := List.all_eq_true.1 h3.2.2.2 k (List.mem_range.2 hk)
    unfold hearB at h4
    rw [Bool.and_eq_true] at h4
    exact in_lt h1 h4.1
end Go.Sm
end

section
set_option linter.unusedSimpArgs false
set_option linter.deprecated false
set_option linter.unusedSectionVars false
set_option linter.unusedVariables false
set_option linter.unusedSimpArgs false
namespace Go.Sm
attribute [local irreducible] bd chk ix loopN
def hitAt (l : List SRadio) (i k : Nat) : Bool := decide ((rad l (hrs l i k).toNat).Slot = (rad l i).Slot)
def hitB (l : List SRadio) (i : Nat) : Bool := (List.range (rad l i).Hears.length).any (hitAt l i)
def clashK (l : List SRadio) (k : Nat) : List Int := ((List.range k).filter (hitB l)).map fun (j : Nat) => (j : Int)
def clashB (l : List SRadio) : List Int := bif radiosB l then clashK l l.length else []
theorem clashK_succ (l : List SRadio) (k : Nat) : clashK l (k + 1) = bif hitB l k then clashK l k ++ [(k : Int)] else clashK l k := by
  unfold clashK
  rw [List.range_succ, List.filter_append, List.map_append]
  cases h : hitB l k with
  | true => simp [h]
  | false => simp [h]
theorem clashK_len (l : List SRadio) (k : Nat) : (clashK l k).length ≤ k := by
  unfold clashK
  rw [List.length_map]
  have := List.length_filter_le (hitB l) (List.range k)
  rw [List.length_range] at this
  exact this
theorem clash_head {l : List SRadio} (h : (clashB l).length ≠ 0) : radiosB l = true ∧ 0 < (clashB l).length ∧ ∃ i : Nat, i < l.length ∧ (clashB l).getD 0 0 = (i : Int) := by
  unfold clashB at h ⊢
  cases hr : radiosB l with
  | false => rw [hr] at h; exact absurd rfl h
  | true =>
    rw [hr] at h
    simp only [cond_true] at h ⊢
    have h2 : 0 < (clashK l l.length).length := by omega
    refine ⟨trivial, h2, ?_⟩
    have h3 := getD_mem (d := 0) h2
    unfold clashK at h3 ⊢
    obtain ⟨i, h4, h5⟩ := List.mem_map.1 h3
    exact ⟨i, List.mem_range.1 (List.mem_filter.1 h4).1, h5.symm⟩
theorem clash_len {l : List SRadio} : (clashB l).length ≤ 24 := by
  unfold clashB
  cases hr : radiosB l with
  | false => exact Nat.zero_le _
  | true =>
    have h1 := (radios_good hr).1
    have h2 := clashK_len l l.length
    show (clashK l l.length).length ≤ 24
    omega
theorem hit_spec {R : Type} {n : Nat} (kx : Bool → Option R) (l : List SRadio) (i : Nat) (out : List Int) (hi : i < l.length) (hg : radiosB l = true) (hz : RSz l) (hn : 1000000000 < n) :
    loopN (fun (x : Bool × Int) J' => spec_Clashes_L7 n kx (fun hit29 k30 => J' (hit29, k30)) l (i : Int) x.1 x.2 out) n (false, (0 : Int)) = kx (hitB l i) := by
  obtain ⟨g1, g2, g3⟩ := radios_good hg
  have h1 := hz.each i
  refine loop_runS (S := Bool) (X := Bool × Int) (enc := fun k s => (s, k)) (len := (rad l i).Hears.length) (I := fun k s => s = (List.range k).any (hitAt l i)) (Q := fun r => r = kx (hitB l i)) (fun k s J h hi2 => ?_) (fun s J hi2 => ?_) (by omega) (s0 := false) rfl
  · refine ⟨(List.range (k + 1)).any (hitAt l i), rfl, ?_⟩
    obtain ⟨q0, q1⟩ := g3 i k hi h
    show spec_Clashes_L7 n _ _ l (i : Int) s (k : Int) out = _
    unfold spec_Clashes_L7 spec_Clashes_k0
    simp only [ix_nat hi, Int.ofNat_lt, h, decide_true, cond_true, Int.toNat_natCast, bd_eq, ix_nat h, ix_of q0 q1, w64_succ (show k < 9223372036854775807 by omega)]
    rw [any_range_succ, ← hi2]
    cases s with
    | true => rfl
    | false => rfl
  · show spec_Clashes_L7 n _ _ l (i : Int) s ((rad l i).Hears.length : Int) out = _
    unfold spec_Clashes_L7
    simp only [ix_nat hi, Int.toNat_natCast, bd_eq, Int.lt_irrefl, decide_false, cond_false]
    rw [hi2]
    rfl
theorem clash_spec {n : Nat} (l : List SRadio) (hz : RSz l) (hn : 1000000000 < n) : spec_Clashes n l = some (clashB l) := by
  have hlen := hz.len
  unfold spec_Clashes clashB
  cases hg : radiosB l with
  | false =>
    obtain ⟨m, hm⟩ : ∃ m, n = m + 1 := ⟨n - 1, by omega⟩
    rw [show loopN (fun (x : Int × List Int) J' => spec_Clashes_L3 n (fun out35 => some (out35)) (fun i36 out37 => J' (i36, out37)) l x.1 x.2) n ((0 : Int), []) = loopN (fun (x : Int × List Int) J' => spec_Clashes_L3 n (fun out35 => some (out35)) (fun i36 out37 => J' (i36, out37)) l x.1 x.2) (m + 1) ((0 : Int), []) from by rw [← hm]]
    rw [loopN_succ]
    unfold spec_Clashes_L3
    rw [radios_spec l hz hn, hg]
    cases decide ((0 : Int) < (l.length : Int)) <;> rfl
  | true =>
    have g1 := (radios_good hg).1
    refine loop_runS (S := List Int) (X := Int × List Int) (enc := fun k s => (k, s)) (len := l.length) (I := fun k s => s = clashK l k) (Q := fun r => r = some (clashK l l.length)) (fun k s J h hi2 => ?_) (fun s J hi2 => ?_) (by omega) (s0 := []) rfl
    · refine ⟨clashK l (k + 1), rfl, ?_⟩
      have hh := fun kx => hit_spec (R := List Int) (n := n) kx l k s h hg hz hn
      have hc := clashK_len l k
      show spec_Clashes_L3 n _ _ l (k : Int) s = _
      unfold spec_Clashes_L3 spec_Clashes_k1
      simp only [Int.ofNat_lt, h, decide_true, cond_true, radios_spec l hz hn, hg, Option.bind_some, hh, w64_succ (show k < 9223372036854775807 by omega)]
      rw [clashK_succ]
      subst hi2
      cases hitB l k with
      | true => rw [cond_true, cond_true, chk_dec (by rw [List.length_append, List.length_singleton]; omega)]
      | false => rfl
    · show spec_Clashes_L3 n _ _ l (l.length : Int) s = _
      unfold spec_Clashes_L3
      simp only [Int.lt_irrefl, decide_false, cond_false]
      rw [hi2]
theorem own_int {n : Nat} (l : List Int) (h : l.length ≤ 1048576) : impl_own_int n l = some l := by
  unfold impl_own_int
  rw [chk_dec (by omega), chk_dec (by omega), chk_dec (by omega)]
theorem hit_impl {n : Nat} (l : List SRadio) (i : Nat) (hi : i < l.length) (hg : radiosB l = true) (hz : RSz l) (hn : 1000000000 < n) : slices_ContainsFunc_int_int__impl_Clashes_1 n (rad l i).Hears l (rad l i) = some (hitB l i) := by
  obtain ⟨g1, g2, g3⟩ := radios_good hg
  have h1 := hz.each i
  unfold slices_ContainsFunc_int_int__impl_Clashes_1 slices_IndexFunc_int_int__impl_Clashes_1
  rw [loop_idx (p := hitAt l i) (len := (rad l i).Hears.length) (by omega) (fun k J h _ => ?_) (fun J _ => ?_) (by omega)]
  · rw [Option.bind_some, idxOf_ge]; rfl
  · obtain ⟨q0, q1⟩ := g3 i k hi h
    unfold slices_IndexFunc_int_int__impl_Clashes_1_L2 impl_Clashes_1
    simp only [Int.ofNat_lt, h, decide_true, cond_true, ix_nat h, bd_eq, Int.toNat_natCast, ix_of q0 q1, Option.bind_some, w64_succ (show k < 9223372036854775807 by omega)]
    rfl
  · unfold slices_IndexFunc_int_int__impl_Clashes_1_L2
    simp only [Int.lt_irrefl, decide_false, cond_false]
theorem clash_impl {n : Nat} (l : List SRadio) (hz : RSz l) (hn : 1000000000 < n) : impl_Clashes n l = some (clashB l) := by
  have hlen := hz.len
  unfold impl_Clashes clashB
  rw [radios_impl l hz hn, Option.bind_some]
  cases hg : radiosB l with
  | false => rfl
  | true =>
    have g1 := (radios_good hg).1
    simp only [Bool.not_true, cond_false, cond_true]
    refine loop_runS (S := List Int) (X := Int × List Int) (enc := fun k s => (k, s)) (len := l.length) (I := fun k s => s = clashK l k) (Q := fun r => r = some (clashK l l.length)) (fun k s J h hi2 => ?_) (fun s J hi2 => ?_) (by omega) (s0 := []) rfl
    · refine ⟨clashK l (k + 1), rfl, ?_⟩
      have hh := hit_impl (n := n) l k h hg hz hn
      have hc := clashK_len l k
      show impl_Clashes_L5 n _ _ l (l.length : Int) (k : Int) l s = _
      unfold impl_Clashes_L5 impl_Clashes_k0
      simp only [Int.ofNat_lt, h, decide_true, cond_true, ix_nat h, bd_eq, Int.toNat_natCast, Option.bind_some, hh, w64_succ (show k < 9223372036854775807 by omega)]
      rw [clashK_succ]
      subst hi2
      cases hitB l k with
      | true => rw [cond_true, cond_true, chk_dec (by rw [List.length_append, List.length_singleton]; omega)]
      | false => rfl
    · have hc := clashK_len l l.length
      show impl_Clashes_L5 n _ _ l (l.length : Int) (l.length : Int) l s = _
      unfold impl_Clashes_L5
      simp only [Int.lt_irrefl, decide_false, cond_false]
      rw [hi2, own_int _ (by omega)]
      rfl
/-! ### Choose -/
def usedB (l : List SRadio) (i s : Nat) : Bool := (List.range (rad l i).Hears.length).any fun k => decide ((rad l (hrs l i k).toNat).Slot = (s : Int))
def freeK (l : List SRadio) (i k : Nat) : List Int := ((List.range k).filter fun s => !usedB l i s).map fun (j : Nat) => (j : Int)
theorem freeK_succ (l : List SRadio) (i k : Nat) : freeK l i (k + 1) = bif !usedB l i k then freeK l i k ++ [(k : Int)] else freeK l i k := by
  unfold freeK
  rw [List.range_succ, List.filter_append, List.map_append]
  cases h : usedB l i k with
  | true => simp [h]
  | false => simp [h]
theorem freeK_len (l : List SRadio) (i k : Nat) : (freeK l i k).length ≤ k := by
  unfold freeK
  rw [List.length_map]
  have := List.length_filter_le (fun s => !usedB l i s) (List.range k)
  rw [List.length_range] at this
  exact this
def pick (free : List Int) (slot coin : Int) : Int × Bool := bif decide (free.length = 0) then (slot, false) else (free.getD (Int.tmod coin (free.length : Int)).toNat 0, true)
def chooseB (l : List SRadio) (at1 coin : Int) : Int × Bool := bif radiosB l && (inB l at1 && !decide (coin < 0)) then pick (freeK l at1.toNat 20) (rad l at1.toNat).Slot coin else (-1, false)
theorem pick_ok {free : List Int} {slot : Int} {e : Option (Int × Bool)} {coin : Int} (hf : free.length ≤ 24) (hc : ¬ coin < 0) (he : e = some (slot, false)) :
    (bif (decide ((free.length : Int) = (0 : Int))) then e else (bif decide ((free.length : Int) = 0) then none else (bd (Int.tmod coin (free.length : Int)) fun (v37 : Int) => ix v37 free.length (chk (decide (v37.toNat < free.length)) (some ((free.getD v37.toNat (0 : Int)), true)))))) = some (pick free slot coin) := by
  unfold pick
  by_cases h : free.length = 0
  · rw [decide_eq_true (show (free.length : Int) = 0 by omega), decide_eq_true h, cond_true, cond_true]
    exact he
  · rw [decide_eq_false (show ¬ (free.length : Int) = 0 by omega), decide_eq_false h, cond_false, cond_false, cond_false, bd_eq]
    have h1 := Int.tmod_nonneg (a := coin) (free.length : Int) (by omega)
    have h2 := Int.tmod_lt_of_pos coin (show (0 : Int) < (free.length : Int) by omega)
    rw [ix_of h1 h2, chk_dec (by omega)]
theorem taken_set {t : List Bool} {s : Nat} {x : Int} (h0 : 0 ≤ x) (h1 : x.toNat < t.length) : (t.set x.toNat true).getD s false = (t.getD s false || decide (x = (s : Int))) := by
  by_cases e : x = (s : Int)
  · subst e
    rw [decide_eq_true rfl, Bool.or_true]
    simp only [Int.toNat_natCast] at h1 ⊢
    simp [List.getD, h1]
  · rw [decide_eq_false e, Bool.or_false]
    have : x.toNat ≠ s := by omega
    simp [List.getD, List.getElem?_set, this]
theorem getD_rep (m s : Nat) : (List.replicate m false).getD s false = false := by
  by_cases h : s < m
  · rw [getD_eq (by rw [List.length_replicate]; exact h), List.getElem_replicate]
  · rw [List.getD, List.getElem?_eq_none (by rw [List.length_replicate]; omega)]; rfl
theorem choose_spec {n : Nat} (l : List SRadio) (at1 coin : Int) (hz : RSz l) (hn : 1000000000 < n) : spec_Choose n l at1 coin = some (chooseB l at1 coin) := by
  unfold spec_Choose chooseB
  rw [radios_spec l hz hn, Option.bind_some]
  cases hg : radiosB l with
  | false => rfl
  | true =>
    obtain ⟨g1, g2, g3⟩ := radios_good hg
    have eo : decide (0 ≤ at1 ∧ at1 ≤ w64 ((l.length : Int) - 1)) = inB l at1 := rfl
    simp only [Bool.not_true, cond_false, Bool.true_and, in_spec, bd_eq, Option.bind_some, eo]
    cases ho : inB l at1 with
    | false => rfl
    | true =>
      simp only [Bool.not_true, cond_false, Bool.true_and]
      by_cases hc : coin < 0
      · rw [decide_eq_true hc]; rfl
      · rw [decide_eq_false hc]
        simp only [cond_false, Bool.not_false, cond_true]
        obtain ⟨q0, q1⟩ := in_lt g1 ho
        obtain ⟨i, rfl⟩ : ∃ i : Nat, at1 = (i : Int) := ⟨at1.toNat, by omega⟩
        have hi : i < l.length := by omega
        have h1 := hz.each i
        unfold spec_Choose_k1
        simp only [Int.toNat_natCast]
        refine loop_runS (S := List Bool) (X := Int × List Bool) (enc := fun k s => (k, s)) (len := (rad l i).Hears.length) (I := fun k t => t.length = 20 ∧ ∀ s, s < 20 → t.getD s false = (List.range k).any fun k => decide ((rad l (hrs l i k).toNat).Slot = (s : Int)))
          (Q := fun r => r = some (pick (freeK l i 20) (rad l i).Slot coin)) (fun k t J h hi2 => ?_) (fun t J hi2 => ?_) (by omega) (s0 := _) ⟨List.length_replicate, fun s hs => getD_rep 20 s⟩
        · obtain ⟨w0, w1⟩ := g3 i k hi h
          obtain ⟨s0, s1⟩ := g2 (hrs l i k).toNat (by omega)
          obtain ⟨hi3, hi4⟩ := hi2
          refine ⟨t.set ((rad l (hrs l i k).toNat).Slot).toNat true, ⟨by rw [List.length_set]; exact hi3, fun s hs => ?_⟩, ?_⟩
          · rw [taken_set s0 (by omega), hi4 s hs, any_range_succ]
          · show spec_Choose_L5 n _ _ l (i : Int) coin (k : Int) t = _
            unfold spec_Choose_L5 spec_Choose_k0
            simp only [ix_nat hi, Int.ofNat_lt, h, decide_true, cond_true, Int.toNat_natCast, bd_eq, ix_nat h, ix_of w0 w1, ix_of s0 (show (rad l (hrs l i k).toNat).Slot < (t.length : Int) by omega), chk_dec (show ((rad l (hrs l i k).toNat).Slot).toNat < t.length by omega), w64_succ (show k < 9223372036854775807 by omega)]
        · obtain ⟨hi3, hi4⟩ := hi2
          show spec_Choose_L5 n _ _ l (i : Int) coin ((rad l i).Hears.length : Int) t = _
          unfold spec_Choose_L5
          simp only [ix_nat hi, Int.toNat_natCast, bd_eq, Int.lt_irrefl, decide_false, cond_false]
          refine loop_runS (S := List Int) (X := Int × List Int) (enc := fun k s => (k, s)) (len := 20) (I := fun k s => s = freeK l i k)
            (Q := fun r => r = some (pick (freeK l i 20) (rad l i).Slot coin)) (fun k s J2 h hi5 => ?_) (fun s J2 hi5 => ?_) (by omega) (s0 := []) rfl
          · refine ⟨freeK l i (k + 1), rfl, ?_⟩
            have hf := freeK_len l i k
            show spec_Choose_L10 n _ _ l (i : Int) coin (k : Int) t s = _
            unfold spec_Choose_L10
            have e : t.getD k false = usedB l i k := hi4 k h
            simp only [decide_eq_true (show (k : Int) < 20 by omega), cond_true, ix_nat (show k < t.length by omega), Int.toNat_natCast, chk_dec (show k < t.length by omega), e, w64_succ (show k < 9223372036854775807 by omega)]
            rw [freeK_succ]
            subst hi5
            cases usedB l i k with
            | false => rw [Bool.not_false, cond_true, cond_true, chk_dec (by rw [List.length_append, List.length_singleton]; omega)]
            | true => rfl
          · have hf := freeK_len l i 20
            show spec_Choose_L10 n _ _ l (i : Int) coin (20 : Int) t s = _
            unfold spec_Choose_L10
            subst hi5
            simp only [Int.lt_irrefl, decide_false, cond_false]
            have hp := pick_ok (free := freeK l i 20) (slot := (rad l i).Slot) (coin := coin) (by omega) hc rfl
            simp only [bd_eq] at hp
            exact hp
theorem used_impl {n : Nat} (l : List SRadio) (i s : Nat) (hi : i < l.length) (hg : radiosB l = true) (hz : RSz l) (hn : 1000000000 < n) : slices_ContainsFunc_int_int__impl_Choose_1 n (rad l i).Hears l (s : Int) = some (usedB l i s) := by
  obtain ⟨g1, g2, g3⟩ := radios_good hg
  have h1 := hz.each i
  unfold slices_ContainsFunc_int_int__impl_Choose_1 slices_IndexFunc_int_int__impl_Choose_1
  rw [loop_idx (p := fun k => decide ((rad l (hrs l i k).toNat).Slot = (s : Int))) (len := (rad l i).Hears.length) (by omega) (fun k J h _ => ?_) (fun J _ => ?_) (by omega)]
  · rw [Option.bind_some, idxOf_ge]; rfl
  · obtain ⟨q0, q1⟩ := g3 i k hi h
    unfold slices_IndexFunc_int_int__impl_Choose_1_L2 impl_Choose_1
    simp only [Int.ofNat_lt, h, decide_true, cond_true, ix_nat h, bd_eq, Int.toNat_natCast, ix_of q0 q1, Option.bind_some, w64_succ (show k < 9223372036854775807 by omega)]
  · unfold slices_IndexFunc_int_int__impl_Choose_1_L2
    simp only [Int.lt_irrefl, decide_false, cond_false]
theorem choose_impl {n : Nat} (l : List SRadio) (at1 coin : Int) (hz : RSz l) (hn : 1000000000 < n) : impl_Choose n l at1 coin = some (chooseB l at1 coin) := by
  unfold impl_Choose chooseB
  rw [radios_impl l hz hn, Option.bind_some]
  cases hg : radiosB l with
  | false => rfl
  | true =>
    obtain ⟨g1, g2, g3⟩ := radios_good hg
    have eo : decide (0 ≤ at1 ∧ at1 ≤ w64 ((l.length : Int) - 1)) = inB l at1 := rfl
    simp only [Bool.not_true, cond_false, Bool.true_and, in_impl, bd_eq, Option.bind_some, eo]
    cases ho : inB l at1 with
    | false => rfl
    | true =>
      simp only [Bool.not_true, cond_false, Bool.true_and]
      by_cases hc : coin < 0
      · rw [decide_eq_true hc]; rfl
      · rw [decide_eq_false hc]
        simp only [cond_false, Bool.not_false, cond_true]
        obtain ⟨q0, q1⟩ := in_lt g1 ho
        obtain ⟨i, rfl⟩ : ∃ i : Nat, at1 = (i : Int) := ⟨at1.toNat, by omega⟩
        have hi : i < l.length := by omega
        have h1 := hz.each i
        unfold impl_Choose_k1
        simp only [Int.toNat_natCast]
        refine loop_runS (S := List Int) (X := Int × List Int) (enc := fun k s => (k, s)) (len := 20) (I := fun k s => s = freeK l i k)
            (Q := fun r => r = some (pick (freeK l i 20) (rad l i).Slot coin)) (fun k s J2 h hi5 => ?_) (fun s J2 hi5 => ?_) (by omega) (s0 := []) rfl
        · refine ⟨freeK l i (k + 1), rfl, ?_⟩
          have hf := freeK_len l i k
          have hu := used_impl (n := n) l i k hi hg hz hn
          show impl_Choose_L5 n _ _ (i : Int) coin (k : Int) l s = _
          unfold impl_Choose_L5 impl_Choose_k0
          simp only [decide_eq_true (show (k : Int) < 20 by omega), cond_true, ix_nat hi, Int.toNat_natCast, bd_eq, hu, Option.bind_some, w64_succ (show k < 9223372036854775807 by omega)]
          rw [freeK_succ]
          subst hi5
          cases usedB l i k with
          | false => rw [Bool.not_false, cond_true, cond_true, chk_dec (by rw [List.length_append, List.length_singleton]; omega)]
          | true => rfl
        · have hf := freeK_len l i 20
          show impl_Choose_L5 n _ _ (i : Int) coin (20 : Int) l s = _
          unfold impl_Choose_L5
          subst hi5
          simp only [Int.lt_irrefl, decide_false, cond_false]
          refine pick_ok (free := freeK l i 20) (by omega) hc ?_
          rw [ix_nat hi, bd_eq]
end Go.Sm
end

section
set_option linter.unusedSimpArgs false
set_option linter.deprecated false
set_option linter.unusedSectionVars false
set_option linter.unusedVariables false
set_option linter.unusedSimpArgs false
namespace Go.Sm
attribute [local irreducible] bd chk ix loopN
def setSlot (l : List SRadio) (i : Nat) (s : Int) : List SRadio := l.set i ⟨(rad l i).Id, s, (rad l i).Hears⟩
theorem sumOf_set {α : Type} {f : α → Nat} {d : α} : ∀ (l : List α) (i : Nat) (x : α), i < l.length → f x = f (l.getD i d) → sumOf f (l.set i x) = sumOf f l
  | [], _, _, h, _ => absurd h (Nat.not_lt_zero _)
  | a :: l, 0, x, _, e => by
    have e : f x = f a := e
    show f x + sumOf f l = f a + sumOf f l
    rw [e]
  | a :: l, i + 1, x, h, e => by
    show f a + sumOf f (l.set i x) = f a + sumOf f l
    rw [sumOf_set (d := d) l i x (Nat.lt_of_succ_lt_succ h) e]
theorem setSlot_w (l : List SRadio) {i : Nat} (s : Int) (hi : i < l.length) : w_LSRadio (setSlot l i s) = w_LSRadio l := by
  show (setSlot l i s).length + sumOf (fun y => w_SRadio y) (setSlot l i s) = l.length + sumOf (fun y => w_SRadio y) l
  unfold setSlot
  rw [List.length_set, sumOf_set (f := fun y => w_SRadio y) (d := dSRadio) l i ⟨(rad l i).Id, s, (rad l i).Hears⟩ hi rfl]
def settleR (coins : List Int) : Nat → Nat → List SRadio → List SRadio × Int × Bool
  | 0, k, out => (out, (k : Int), decide (((clashB out).length : Int) = 0))
  | m + 1, k, out => bif decide (((clashB out).length : Int) = 0) then (out, (k : Int), true) else
    bif !(chooseB out ((clashB out).getD 0 0) (coins.getD k 0)).2 then (out, (k : Int), false) else
    settleR coins m (k + 1) (setSlot out ((clashB out).getD 0 0).toNat (chooseB out ((clashB out).getD 0 0) (coins.getD k 0)).1)
theorem settleR_w (coins : List Int) : ∀ m k out, w_LSRadio (settleR coins m k out).1 = w_LSRadio out
  | 0, _, _ => rfl
  | m + 1, k, out => by
    unfold settleR
    by_cases h : ((clashB out).length : Int) = 0
    · rw [decide_eq_true h]; rfl
    · rw [decide_eq_false h]
      obtain ⟨h1, h2, i, h3, h4⟩ := clash_head (l := out) (by omega)
      simp only [cond_false]
      cases (chooseB out ((clashB out).getD 0 0) (coins.getD k 0)).2 with
      | false => rfl
      | true =>
        simp only [Bool.not_true, cond_false]
        rw [settleR_w coins m, h4, Int.toNat_natCast, setSlot_w out _ h3]
theorem step_spec {n : Nat} (coins : List Int) (hc : coins.length ≤ 1048576) (hn : 1000000000 < n) (J : Int → List SRadio → Option (List SRadio × Int × Bool)) (k : Nat) (out : List SRadio) (hlt : k < coins.length) (hw : w_LSRadio out ≤ 1048576) :
    spec_Settle_L5 n (fun used26 out27 => (spec_Clashes n out27).bind fun r28 => some (out27, used26, (decide ((r28.length : Int) = (0 : Int))))) J coins (k : Int) out =
      bif decide (((clashB out).length : Int) = 0) then some (out, (k : Int), true) else
      bif !(chooseB out ((clashB out).getD 0 0) (coins.getD k 0)).2 then some (out, (k : Int), false) else
      J ((k + 1 : Nat) : Int) (setSlot out ((clashB out).getD 0 0).toNat (chooseB out ((clashB out).getD 0 0) (coins.getD k 0)).1) := by
  unfold spec_Settle_L5
  simp only [Int.ofNat_lt, hlt, decide_true, cond_true, clash_spec out (rSz hw) hn, Option.bind_some]
  by_cases h : ((clashB out).length : Int) = 0
  · rw [decide_eq_true h]; rfl
  · rw [decide_eq_false h]
    obtain ⟨h1, h2, i, h3, h4⟩ := clash_head (l := out) (by omega)
    unfold spec_Settle_k1
    simp only [cond_false, ix_of (Int.le_refl 0) (show (0 : Int) < ((clashB out).length : Int) by omega), chk_dec h2, ix_nat hlt, h4, Int.toNat_natCast, choose_spec out _ _ (rSz hw) hn, Option.bind_some]
    cases (chooseB out (i : Int) (coins.getD k 0)).2 with
    | false =>
      simp only [Bool.not_false, cond_true, clash_spec out (rSz hw) hn, Option.bind_some, decide_eq_false h]
    | true =>
      unfold spec_Settle_k0
      simp only [Bool.not_true, cond_false, ix_of (Int.le_refl 0) (show (0 : Int) < ((clashB out).length : Int) by omega), chk_dec h2, h4, ix_nat h3, Int.toNat_natCast, chk_dec h3, bd_eq, w64_succ (show k < 9223372036854775807 by omega)]
      rfl
theorem go_spec {n : Nat} (coins : List Int) (hc : coins.length ≤ 1048576) (hn : 1000000000 < n) : ∀ m k out f, k + m = coins.length → m < f → w_LSRadio out ≤ 1048576 →
    loopN (fun (x : Int × List SRadio) J' => spec_Settle_L5 n (fun used26 out27 => (spec_Clashes n out27).bind fun r28 => some (out27, used26, (decide ((r28.length : Int) = (0 : Int))))) (fun used29 out30 => J' (used29, out30)) coins x.1 x.2) f ((k : Int), out) = some (settleR coins m k out)
  | m, k, out, 0, _, h, _ => absurd h (Nat.not_lt_zero _)
  | 0, k, out, f + 1, hk, _, hw => by
    have hk : k = coins.length := by omega
    subst hk
    rw [loopN_succ]
    unfold spec_Settle_L5
    simp only [Int.lt_irrefl, decide_false, cond_false, clash_spec out (rSz hw) hn, Option.bind_some]
    rfl
  | m + 1, k, out, f + 1, hk, hf, hw => by
    have hlt : k < coins.length := by omega
    rw [loopN_succ]
    refine (step_spec coins hc hn _ k out hlt hw).trans ?_
    unfold settleR
    by_cases h : ((clashB out).length : Int) = 0
    · rw [decide_eq_true h]; rfl
    · rw [decide_eq_false h]
      obtain ⟨h1, h2, i, h3, h4⟩ := clash_head (l := out) (by omega)
      rw [h4, Int.toNat_natCast]
      have hi := go_spec coins hc hn m (k + 1) (setSlot out i (chooseB out (i : Int) (coins.getD k 0)).1) f (by omega) (by omega) (by rw [setSlot_w out _ h3]; exact hw)
      cases (chooseB out (i : Int) (coins.getD k 0)).2 with
      | false => rfl
      | true => exact hi
theorem step_impl {n : Nat} (coins : List Int) (hc : coins.length ≤ 1048576) (hn : 1000000000 < n) (J : Int → (List SRadio) × Nat → Option (List SRadio × Int × Bool)) (k : Nat) (out : List SRadio) (hle : k ≤ coins.length) (hw : w_LSRadio out ≤ 1048576) :
    impl_Settle_L10 n (fun t51 t52 t53 => chk (decide (t53.1.length ≤ t53.2)) (some (t53.1, t51, t52))) J coins (k : Int) (out, out.length) =
      bif decide (((clashB out).length : Int) = 0) then some (out, (k : Int), true) else
      bif decide (k = coins.length) then some (out, (k : Int), false) else
      bif !(chooseB out ((clashB out).getD 0 0) (coins.getD k 0)).2 then some (out, (k : Int), false) else
      J ((k + 1 : Nat) : Int) (setSlot out ((clashB out).getD 0 0).toNat (chooseB out ((clashB out).getD 0 0) (coins.getD k 0)).1, out.length) := by
  unfold impl_Settle_L10
  simp only [clash_impl out (rSz hw) hn, Option.bind_some, chk_dec (Nat.le_refl out.length)]
  by_cases h : ((clashB out).length : Int) = 0
  · rw [decide_eq_true h]; rfl
  · rw [decide_eq_false h]
    by_cases hk : k = coins.length
    · rw [decide_eq_true hk, decide_eq_true (show (k : Int) = (coins.length : Int) by omega)]; rfl
    · rw [decide_eq_false hk, decide_eq_false (show ¬ (k : Int) = (coins.length : Int) by omega)]
      have hlt : k < coins.length := by omega
      obtain ⟨h1, h2, i, h3, h4⟩ := clash_head (l := out) (by omega)
      unfold impl_Settle_k2
      simp only [cond_false, ix_of (Int.le_refl 0) (show (0 : Int) < ((clashB out).length : Int) by omega), chk_dec h2, ix_nat hlt, h4, Int.toNat_natCast, choose_impl out _ _ (rSz hw) hn, Option.bind_some]
      cases (chooseB out (i : Int) (coins.getD k 0)).2 with
      | false =>
        simp only [Bool.not_false, cond_true, chk_dec (Nat.le_refl out.length)]
      | true =>
        unfold impl_Settle_k1
        simp only [Bool.not_true, cond_false, ix_of (Int.le_refl 0) (show (0 : Int) < ((clashB out).length : Int) by omega), chk_dec h2, h4, ix_nat h3, Int.toNat_natCast, chk_dec h3, bd_eq, w64_succ (show k < 9223372036854775807 by omega)]
        rfl
theorem go_impl {n : Nat} (coins : List Int) (hc : coins.length ≤ 1048576) (hn : 1000000000 < n) : ∀ m k out f, k + m = coins.length → m < f → w_LSRadio out ≤ 1048576 → ∀ c, c = out.length →
    loopN (fun (x : Int × ((List SRadio) × Nat)) J' => impl_Settle_L10 n (fun t51 t52 t53 => chk (decide (t53.1.length ≤ t53.2)) (some (t53.1, t51, t52))) (fun used54 l55 => J' (used54, l55)) coins x.1 x.2) f ((k : Int), (out, c)) = some (settleR coins m k out)
  | m, k, out, 0, _, h, _ => absurd h (Nat.not_lt_zero _)
  | 0, k, out, f + 1, hk, _, hw => by
    rintro c rfl
    rw [loopN_succ]
    refine (step_impl coins hc hn _ k out (by omega) hw).trans ?_
    unfold settleR
    rw [decide_eq_true (show k = coins.length by omega)]
    cases decide (((clashB out).length : Int) = 0) <;> rfl
  | m + 1, k, out, f + 1, hk, hf, hw => by
    rintro c rfl
    rw [loopN_succ]
    refine (step_impl coins hc hn _ k out (by omega) hw).trans ?_
    unfold settleR
    rw [decide_eq_false (show ¬ k = coins.length by omega)]
    by_cases h : ((clashB out).length : Int) = 0
    · rw [decide_eq_true h]; rfl
    · rw [decide_eq_false h]
      obtain ⟨h1, h2, i, h3, h4⟩ := clash_head (l := out) (by omega)
      rw [h4, Int.toNat_natCast]
      have hi := go_impl coins hc hn m (k + 1) (setSlot out i (chooseB out (i : Int) (coins.getD k 0)).1) f (by omega) (by omega) (by rw [setSlot_w out _ h3]; exact hw) out.length (by simp [setSlot])
      cases (chooseB out (i : Int) (coins.getD k 0)).2 with
      | false => rfl
      | true => exact hi
def settleB (l : List SRadio) (coins : List Int) : List SRadio × Int × Bool :=
  bif radiosB l && (!decide ((coins.length : Int) > 200) && (List.range coins.length).all fun k => !decide (coins.getD k 0 < 0)) then settleR coins coins.length 0 l else ([], 0, false)
theorem settleB_w (l : List SRadio) (coins : List Int) (h : w_LSRadio l ≤ 1048576) : w_LSRadio (settleB l coins).1 ≤ 1048576 := by
  unfold settleB
  cases radiosB l && (!decide ((coins.length : Int) > 200) && (List.range coins.length).all fun k => !decide (coins.getD k 0 < 0)) with
  | true => rw [cond_true, settleR_w]; exact h
  | false => exact Nat.zero_le _
theorem copy_spec {n : Nat} (l : List SRadio) (hz : RSz l) (hn : 1000000000 < n) : spec_l9Copy n l = some l := by
  have hlen := hz.len
  unfold spec_l9Copy
  refine loop_runS (S := List SRadio) (X := Int × List SRadio) (enc := fun k s => (k, s)) (len := l.length) (I := fun k s => s = l.take k) (Q := fun r => r = some l) (fun k s J h hi => ?_) (fun s J hi => ?_) (by omega) (s0 := []) rfl
  · refine ⟨l.take (k + 1), rfl, ?_⟩
    have he := hz.each k
    show spec_l9Copy_L3 n _ _ l (k : Int) s = _
    unfold spec_l9Copy_L3
    subst hi
    simp only [Int.ofNat_lt, h, decide_true, cond_true, ix_nat h, bd_eq, Int.toNat_natCast, w64_succ (show k < 9223372036854775807 by omega), chk_dec (show (l.getD k dSRadio).Hears.length * 8 ≤ 140737488355328 by have : (l.getD k dSRadio).Hears.length ≤ 1048576 := he; omega),
      ← take_succ_getD h, chk_dec (show (l.take (k + 1)).length * 40 ≤ 140737488355328 by rw [List.length_take]; omega)]
  · show spec_l9Copy_L3 n _ _ l (l.length : Int) s = _
    unfold spec_l9Copy_L3
    simp only [Int.lt_irrefl, decide_false, cond_false]
    rw [hi, List.take_length]
theorem all_spec {n : Nat} (l : List Int) (hl : l.length ≤ 1048576) (hw : ∀ y ∈ l, rng (-9223372036854775808) 9223372036854775807 y) (hn : 1000000000 < n) : spec_l3All n l 0 9223372036854775807 = some ((List.range l.length).all fun k => !decide (l.getD k 0 < 0)) := by
  unfold spec_l3All
  rw [loop_all (p := fun k => !decide (l.getD k 0 < 0)) (len := l.length) (no := some false) (yes := some true) (by omega) (fun k J h _ => ?_) (fun J _ => ?_) (by omega)]
  · rw [bif_tf]
  · have hk := hw (l.getD k 0) (getD_mem h)
    have e : decide (0 ≤ l.getD k 0 ∧ l.getD k 0 ≤ 9223372036854775807) = !decide (l.getD k 0 < 0) := by
      have := hk.2
      by_cases c : l.getD k 0 < 0
      · rw [decide_eq_true c, decide_eq_false (by omega)]; rfl
      · rw [decide_eq_false c, decide_eq_true (by omega)]; rfl
    unfold spec_l3All_L2
    simp only [Int.ofNat_lt, h, decide_true, cond_true, ix_nat h, in_spec, Option.bind_some, Int.toNat_natCast, w64_succ (show k < 9223372036854775807 by omega), e, bif_not, Bool.not_not]
  · unfold spec_l3All_L2
    simp only [Int.lt_irrefl, decide_false, cond_false]
theorem all_impl {n : Nat} (l : List Int) (hl : l.length ≤ 1048576) (hn : 1000000000 < n) : slices_ContainsFunc_int_int__impl_Settle_1 n l = some (!(List.range l.length).all fun k => !decide (l.getD k 0 < 0)) := by
  unfold slices_ContainsFunc_int_int__impl_Settle_1 slices_IndexFunc_int_int__impl_Settle_1
  rw [loop_idx (p := fun k => decide (l.getD k 0 < 0)) (len := l.length) (by omega) (fun k J h _ => ?_) (fun J _ => ?_) (by omega)]
  · rw [Option.bind_some, idxOf_ge, List.not_all_eq_any_not]
    simp only [Bool.not_not]
  · unfold slices_IndexFunc_int_int__impl_Settle_1_L2 impl_Settle_1
    simp only [Int.ofNat_lt, h, decide_true, cond_true, ix_nat h, Int.toNat_natCast, Option.bind_some, w64_succ (show k < 9223372036854775807 by omega)]
  · unfold slices_IndexFunc_int_int__impl_Settle_1_L2
    simp only [Int.lt_irrefl, decide_false, cond_false]
theorem settle_spec {n : Nat} (l : List SRadio) (coins : List Int) (hw : w_LSRadio l ≤ 1048576) (hc : coins.length ≤ 1048576) (hcw : ∀ y ∈ coins, rng (-9223372036854775808) 9223372036854775807 y) (hn : 1000000000 < n) : spec_Settle n l coins = some (settleB l coins) := by
  unfold spec_Settle settleB
  rw [radios_spec l (rSz hw) hn, Option.bind_some, all_spec coins hc hcw hn, Option.bind_some]
  cases radiosB l with
  | false => rfl
  | true =>
    cases decide ((coins.length : Int) > 200) with
    | true => rfl
    | false =>
      cases (List.range coins.length).all fun k => !decide (coins.getD k 0 < 0) with
      | false => rfl
      | true =>
        simp only [Bool.not_true, Bool.not_false, Bool.and_true, cond_true, cond_false]
        unfold spec_Settle_k2
        rw [copy_spec l (rSz hw) hn, Option.bind_some]
        exact go_spec coins hc hn coins.length 0 l n (by omega) (by omega) hw
theorem set_self (l : List SRadio) {i : Nat} (h : i < l.length) : l.set i ⟨(l.getD i dSRadio).Id, (l.getD i dSRadio).Slot, (l.getD i dSRadio).Hears⟩ = l := by
  rw [getD_eq h]
  exact List.set_getElem_self h
theorem settle_impl {n : Nat} (l : List SRadio) (coins : List Int) (hw : w_LSRadio l ≤ 1048576) (hc : coins.length ≤ 1048576) (hn : 1000000000 < n) : impl_Settle n l coins = some (settleB l coins) := by
  have hz := rSz hw
  have hlen := hz.len
  unfold impl_Settle settleB
  rw [radios_impl l hz hn, Option.bind_some, all_impl coins hc hn, Option.bind_some]
  cases radiosB l with
  | false => rfl
  | true =>
    cases decide ((coins.length : Int) > 200) with
    | true => rfl
    | false =>
      cases (List.range coins.length).all fun k => !decide (coins.getD k 0 < 0) with
      | false => rfl
      | true =>
        simp only [Bool.not_true, Bool.not_false, Bool.and_true, cond_true, cond_false]
        unfold impl_Settle_k3 impl_own_impl_Radio
        rw [chk_dec (by omega), chk_dec (by omega), chk_dec (by omega), Option.bind_some]
        refine loop_runS (S := Nat) (X := Int × (List SRadio × Nat)) (enc := fun k s => (k, (l, s))) (len := l.length) (I := fun k s => s = k) (Q := fun r => r = some (settleR coins coins.length 0 l)) (fun k s J h hi => ?_) (fun s J hi => ?_) (by omega) (s0 := 0) rfl
        · refine ⟨k + 1, rfl, ?_⟩
          subst hi
          have he : (l.getD s dSRadio).Hears.length ≤ 1048576 := hz.each s
          show impl_Settle_L5 n _ _ coins (l.length : Int) (s : Int) (l, s) = _
          unfold impl_Settle_L5 impl_Settle_k0
          simp only [Int.ofNat_lt, h, decide_true, cond_true, ix_nat h, Int.toNat_natCast, chk_dec h, Nat.lt_irrefl, decide_false, cond_false, own_int _ he, Option.bind_some, bd_eq, set_self l h, chk_true, w64_succ (show s < 9223372036854775807 by omega)]
        · subst hi
          show impl_Settle_L5 n _ _ coins (l.length : Int) (l.length : Int) (l, l.length) = _
          unfold impl_Settle_L5
          simp only [Int.lt_irrefl, decide_false, cond_false]
          exact go_impl coins hc hn coins.length 0 l n (by omega) (by omega) hw l.length rfl
theorem laws_FnExactSettle_true (aList0 : List SRadio) (aCoins1 : List Int) (h0 : (aList0.length ≤ 9223372036854775807 ∧ ∀ y ∈ aList0, wfSRadio y)) (h1 : (aCoins1.length ≤ 9223372036854775807 ∧ ∀ y ∈ aCoins1, rng (-9223372036854775808) 9223372036854775807 y)) : ∃ n, laws_FnExactSettle n aList0 aCoins1 = some true := by
  refine ⟨1000000001, ?_⟩
  generalize hN : (1000000001 : Nat) = n
  have hn : 1000000000 < n := by omega
  unfold laws_FnExactSettle
  rw [bif_dec]
  split
  · rfl
  rename_i hlw
  rw [laws_szRadioS_ok (n := n) aList0 (left := 1048576) h0 (by omega) (by omega) hn, Option.bind_some]
  refine guard_sz fun hw => ?_
  have hc : aCoins1.length ≤ 1048576 := by omega
  have c1 := settleB_w aList0 aCoins1 hw
  have hS := settle_spec (n := n) aList0 aCoins1 hw hc h1.2 hn
  have hI := settle_impl (n := n) aList0 aCoins1 hw hc hn
  generalize settleB aList0 aCoins1 = R at *
  obtain ⟨R1, R2, R3⟩ := R
  dsimp only at c1
  have n1 := n_LSRadio_le aList0
  have n2 := n_LInt_le aCoins1
  have n3 := n_LSRadio_le R1
  have n4 : w_LInt aCoins1 = aCoins1.length := rfl
  obtain ⟨u1, m1, m2⟩ := laws_markRadioS_ok (n := n) aList0 1 (by omega) (by omega) (by omega) hn
  obtain ⟨u2, m3, m4⟩ := laws_markIntS_ok (n := n) aCoins1 (1 + ((n_LSRadio aList0 : Nat) : Int)) (by omega) (by omega) (by omega) hn
  obtain ⟨v1, p1, p2⟩ := laws_markRadioS_ok (n := n) R1 1 (by omega) (by omega) (by omega) hn
  have d1 : decide (1 + ((n_LSRadio aList0 : Nat) : Int) + ((n_LInt aCoins1 : Nat) : Int) < 0) = false := decide_eq_false (by omega)
  have d2 : decide (1 + ((n_LSRadio R1 : Nat) : Int) < 0) = false := decide_eq_false (by omega)
  unfold laws_FnExactSettle_k4 laws_FnExactSettle_k3 laws_FnExactSettle_k2 laws_FnExactSettle_k1 laws_FnExactSettle_k0
  simp only [laws_toRadioS_ok aList0 (show _ ≤ 100000000 by omega) hn, laws_toIntS_ok aCoins1 (show _ ≤ 100000000 by omega) hn, hS, hI, Option.bind_some, laws_eqRadioS_ok aList0 (show _ ≤ 100000000 by omega) hn, laws_eqIntS_ok aCoins1 (show _ ≤ 100000000 by omega) hn, laws_eqRadioS_ok R1 (show _ ≤ 100000000 by omega) hn,
    m1, m3, p1, p2, d1, d2, decide_true, beq_self_eq_true, Bool.not_true, cond_false, cond_true]
end Go.Sm
end
