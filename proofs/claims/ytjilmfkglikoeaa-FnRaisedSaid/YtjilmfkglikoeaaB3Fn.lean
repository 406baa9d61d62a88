import Derived.Test.YtjilmfkglikoeaaEngA
/- The functions as plain functions over data, and that the law answers true for all arguments. a drawn mass moved upwards never makes the metacentre higher, and the load's moment grows by its weight. -/
section
set_option linter.unusedSimpArgs false
set_option linter.deprecated false
set_option linter.unusedSectionVars false
set_option linter.unusedVariables false
namespace Go.Sm
structure SHull where
  Step : Int
  Rise : Int
  Half : List (List Int)
structure Sl1Cur where
  b : List Int
  i : Int
  h : Int
structure SMass where
  Weight : Int
  X : Int
  Z : Int
structure STank where
  Length : Int
  Breadth : Int
structure SFrac where
  Num : Int
  Den : Int
structure SLoad where
  Weight : Int
  MX : Int
  MZ : Int
def dSHull : SHull := ⟨(0 : Int), (0 : Int), []⟩
def dSl1Cur : Sl1Cur := ⟨[], (0 : Int), (0 : Int)⟩
def dSMass : SMass := ⟨(0 : Int), (0 : Int), (0 : Int)⟩
def dSTank : STank := ⟨(0 : Int), (0 : Int)⟩
def dSFrac : SFrac := ⟨(0 : Int), (0 : Int)⟩
def dSLoad : SLoad := ⟨(0 : Int), (0 : Int), (0 : Int)⟩
def laws_big (n : Nat) (code0 : List Int) : Option Bool :=
  some ((decide ((code0.length : Int) > (1048576 : Int))))
def spec_l1New_k0 {R : Type} (n : Nat) (kx0 : Int → Option R) (J : Int → Int → Option R) (code2 : List Int) (h8 : Int) (i9 : Int) : Option R :=
  ix i9 code2.length ((bd (w64 ((w64 (h8 * (131 : Int))) + (w64 (code2.getD i9.toNat (0 : Int))))) fun (v10 : Int) => (bd (w64 (((BitVec.ofInt 64 (w64 (v10 + (7 : Int))) &&& BitVec.ofInt 64 (1073741823 : Int)).toNat : Nat) : Int)) fun (v11 : Int) => J v11 (w64 (i9 + (1 : Int))))))
def spec_l1New_L3 {R : Type} (n : Nat) (kx0 : Int → Option R) (J : Int → Int → Option R) (code2 : List Int) (h3 : Int) (i4 : Int) : Option R :=
  (bif (decide (i4 < (code2.length : Int))) then (bif (decide (i4 < (4000 : Int))) then spec_l1New_k0 n kx0 J code2 h3 i4 else kx0 h3) else kx0 h3)
def spec_l1New (n : Nat) (code0 : List Int) : Option Sl1Cur :=
  (bd (w64 ((59059 : Int) + (code0.length : Int))) fun (v1 : Int) => loopN (fun (x : Int × Int) J' => spec_l1New_L3 n (fun h16 => some ((⟨code0, (0 : Int), h16⟩ : Sl1Cur))) (fun h17 i18 => J' (h17, i18)) code0 x.1 x.2) n (v1, (0 : Int)))
def spec_l1Byte (n : Nat) (c0 : Sl1Cur) : Option (Int × Sl1Cur) :=
  (bd (w64 (c0.h * (6364136223846793005 : Int))) fun (v1 : Int) => (bd (w64 (v1 + (1442695040888963407 : Int))) fun (v2 : Int) => (bd (Int.fdiv v2 (2 ^ (min (33 : Int).toNat 64))) fun (v3 : Int) => (bd (Int.fdiv v2 (2 ^ (min (45 : Int).toNat 64))) fun (v4 : Int) => (bd (w64 (((BitVec.ofInt 64 v3 ^^^ BitVec.ofInt 64 v4).toNat : Nat) : Int)) fun (v5 : Int) => (bd (w64 (((BitVec.ofInt 64 v5 &&& BitVec.ofInt 64 (255 : Int)).toNat : Nat) : Int)) fun (v6 : Int) => (bif (decide (c0.i < (c0.b.length : Int))) then ix c0.i c0.b.length ((bd (w64 (v6 + (w64 (c0.b.getD c0.i.toNat (0 : Int))))) fun (v7 : Int) => (bd (w64 (((BitVec.ofInt 64 v7 &&& BitVec.ofInt 64 (255 : Int)).toNat : Nat) : Int)) fun (v8 : Int) => some (v8, (⟨c0.b, (w64 (c0.i + (1 : Int))), v2⟩ : Sl1Cur))))) else some (v6, (⟨c0.b, c0.i, v2⟩ : Sl1Cur)))))))))
def spec_l1Below_k0 (n : Nat)  (n1 : Int) (p3 : Sl1Cur) : Option (Int × Sl1Cur) :=
  (spec_l1Byte n p3).bind fun r4 => (spec_l1Byte n r4.2).bind fun r5 => (spec_l1Byte n r5.2).bind fun r6 => (spec_l1Byte n r6.2).bind fun r7 => (bd (w64 (r4.1 * (16777216 : Int))) fun (v8 : Int) => (bd (w64 (r5.1 * (65536 : Int))) fun (v9 : Int) => (bd (w64 (r6.1 * (256 : Int))) fun (v10 : Int) => (bd (w64 ((w64 (v8 + v9)) + v10)) fun (v11 : Int) => (bif decide (n1 = 0) then none else (bd (Int.tmod (w64 (v11 + r7.1)) n1) fun (v12 : Int) => some (v12, r7.2)))))))
def spec_l1Below (n : Nat) (c0 : Sl1Cur) (n1 : Int) : Option (Int × Sl1Cur) :=
  (bif (decide (n1 ≤ (0 : Int))) then some ((0 : Int), c0) else (bif (decide (n1 ≤ (256 : Int))) then (spec_l1Byte n c0).bind fun r13 => (bif decide (n1 = 0) then none else some ((Int.tmod r13.1 n1), r13.2)) else spec_l1Below_k0 n  n1 c0))
def spec_l1Once (n : Nat) (c0 : Sl1Cur) (n1 : Int) : Option (Bool × Sl1Cur) :=
  (spec_l1Below n c0 n1).bind fun r1 => some ((decide (r1.1 = (0 : Int))), r1.2)
def spec_l1DrawHull_k0 {R : Type} (n : Nat) (kx2 : Sl1Cur → List Int → Option R) (J : Int → Int → Sl1Cur → List Int → Option R) (n23 : Int) (w24 : Int) (s25 : Int) (x36 : Int) (k37 : Int) (p38 : Sl1Cur) (t29 : Int) (t30 : Int) (c31 : List (List Int)) (h32 : Int) (h33 : Int) (c34 : List (List Int)) (row39 : List Int) : Option R :=
  chk (decide ((row39 ++ [x36]).length * 8 ≤ 140737488355328)) ((spec_l1Below n p38 (6 : Int)).bind fun r40 => (spec_l1Once n r40.2 (15 : Int)).bind fun r41 => (bif r41.1 then (spec_l1Below n r41.2 (10 : Int)).bind fun r42 => (bif (decide (r42.1 > (50 : Int))) then J (50 : Int) (w64 (k37 + (1 : Int))) r42.2 (row39 ++ [x36]) else J r42.1 (w64 (k37 + (1 : Int))) r42.2 (row39 ++ [x36])) else (bif (decide ((w64 (x36 + r40.1)) > (50 : Int))) then J (50 : Int) (w64 (k37 + (1 : Int))) r41.2 (row39 ++ [x36]) else J (w64 (x36 + r40.1)) (w64 (k37 + (1 : Int))) r41.2 (row39 ++ [x36]))))
def spec_l1DrawHull_L12 {R : Type} (n : Nat) (kx2 : Sl1Cur → List Int → Option R) (J : Int → Int → Sl1Cur → List Int → Option R) (n23 : Int) (w24 : Int) (s25 : Int) (x26 : Int) (k27 : Int) (p28 : Sl1Cur) (t29 : Int) (t30 : Int) (c31 : List (List Int)) (h32 : Int) (h33 : Int) (c34 : List (List Int)) (row35 : List Int) : Option R :=
  (bif (decide (k27 < w24)) then spec_l1DrawHull_k0 n kx2 J n23 w24 s25 x26 k27 p28 t29 t30 c31 h32 h33 c34 row35 else kx2 p28 row35)
def spec_l1DrawHull_k1 {R : Type} (n : Nat) (kx0 : List (List Int) → Sl1Cur → Option R) (J : Int → Sl1Cur → List (List Int) → Option R) (n9 : Int) (w10 : Int) (s19 : Int) (p20 : Sl1Cur) (t13 : Int) (t14 : Int) (c15 : List (List Int)) (h16 : Int) (h17 : Int) (c21 : List (List Int)) : Option R :=
  (spec_l1Below n p20 (8 : Int)).bind fun r22 => loopN (fun (x : Int × Int × Sl1Cur × List Int) J' => spec_l1DrawHull_L12 n (fun p72 row73 => chk (decide ((c21 ++ [row73]).length * 24 ≤ 140737488355328)) (J (w64 (s19 + (1 : Int))) p72 (c21 ++ [row73]))) (fun x74 k75 p76 row77 => J' (x74, k75, p76, row77)) n9 w10 s19 x.1 x.2.1 x.2.2.1 t13 t14 c15 h16 h17 c21 x.2.2.2) n (r22.1, (0 : Int), r22.2, [])
def spec_l1DrawHull_L7 {R : Type} (n : Nat) (kx0 : List (List Int) → Sl1Cur → Option R) (J : Int → Sl1Cur → List (List Int) → Option R) (n9 : Int) (w10 : Int) (s11 : Int) (p12 : Sl1Cur) (t13 : Int) (t14 : Int) (c15 : List (List Int)) (h16 : Int) (h17 : Int) (c18 : List (List Int)) : Option R :=
  (bif (decide (s11 < n9)) then spec_l1DrawHull_k1 n kx0 J n9 w10 s11 p12 t13 t14 c15 h16 h17 c18 else kx0 c18 p12)
def spec_l1DrawHull (n : Nat) (c0 : Sl1Cur) : Option (SHull × Sl1Cur) :=
  (spec_l1Below n c0 (12 : Int)).bind fun r1 => (spec_l1Below n r1.2 (5 : Int)).bind fun r2 => (spec_l1Below n r2.2 (6 : Int)).bind fun r3 => (spec_l1Below n r3.2 (6 : Int)).bind fun r4 => (spec_l1Once n r4.2 (20 : Int)).bind fun r5 => (bif r5.1 then loopN (fun (x : Int × Sl1Cur × List (List Int)) J' => spec_l1DrawHull_L7 n (fun c83 p84 => some ((⟨(w64 ((1 : Int) + r1.1)), (w64 ((1 : Int) + r2.1)), c83⟩ : SHull), p84)) (fun s85 p86 c87 => J' (s85, p86, c87)) (12 : Int) (10 : Int) x.1 x.2.1 (0 : Int) (0 : Int) [] (w64 ((1 : Int) + r1.1)) (w64 ((1 : Int) + r2.1)) x.2.2) n ((0 : Int), r5.2, []) else loopN (fun (x : Int × Sl1Cur × List (List Int)) J' => spec_l1DrawHull_L7 n (fun c98 p99 => some ((⟨(w64 ((1 : Int) + r1.1)), (w64 ((1 : Int) + r2.1)), c98⟩ : SHull), p99)) (fun s100 p101 c102 => J' (s100, p101, c102)) (w64 ((2 : Int) + r3.1)) (w64 ((2 : Int) + r4.1)) x.1 x.2.1 (0 : Int) (0 : Int) [] (w64 ((1 : Int) + r1.1)) (w64 ((1 : Int) + r2.1)) x.2.2) n ((0 : Int), r5.2, []))
def spec_DrawRightHull (n : Nat) (code0 : List Int) : Option (SHull × Int) :=
  (spec_l1New n code0).bind fun r1 => (spec_l1DrawHull n r1).bind fun r2 => ix (0 : Int) r2.1.Half.length (chk (decide (0 < r2.1.Half.length)) (chk (decide (0 < r2.1.Half.length)) ((spec_l1Below n r2.2 ((r2.1.Half.getD 0 []).length : Int)).bind fun r3 => some (r2.1, r3.1))))
def laws_at (n : Nat) (code0 : List Int) (i1 : Int) : Option Int :=
  (bif (decide (i1 < (code0.length : Int))) then ix i1 code0.length (some ((w64 (code0.getD i1.toNat (0 : Int))))) else (bd (w64 ((w64 (i1 * (7 : Int))) + (code0.length : Int))) fun (v3 : Int) => (bd (Int.tmod v3 (256 : Int)) fun (v4 : Int) => some (v4))))
def impl_in (n : Nat) (n0 : Int) (least1 : Int) (most2 : Int) : Option Bool :=
  (bif (decide (n0 ≥ least1)) then some ((decide (n0 ≤ most2))) else some (false))
def impl_all_1 (n : Nat) (n0 : Int) (a1 : Int) (a2 : Int) : Option Bool :=
  (impl_in n n0 a1 a2).bind fun r1 => some ((!r1))
def slices_IndexFunc_int_int__impl_all_1_L2 {R : Type} (n : Nat) (kx0 : Option R) (kxr : Int → Option R) (J : Int → Option R) (s1 : List Int) (f2 : Int) (laws_FnRaised : Int) (t4 : Int) (t5 : Int) : Option R :=
  (bif (decide (t5 < t4)) then ix t5 s1.length ((impl_all_1 n (s1.getD t5.toNat (0 : Int)) f2 laws_FnRaised).bind fun r9 => (bif r9 then kxr t5 else J (w64 (t5 + (1 : Int))))) else kx0)
def slices_IndexFunc_int_int__impl_all_1 (n : Nat) (s0 : List Int) (f1c0 : Int) (f1c1 : Int) : Option Int :=
  loopN (fun (x : Int) J' => slices_IndexFunc_int_int__impl_all_1_L2 n (some ((-1 : Int))) (fun t11 => some (t11)) J' s0 f1c0 f1c1 (s0.length : Int) x) n ((0 : Int))
def slices_ContainsFunc_int_int__impl_all_1 (n : Nat) (s0 : List Int) (f1c0 : Int) (f1c1 : Int) : Option Bool :=
  (slices_IndexFunc_int_int__impl_all_1 n s0 f1c0 f1c1).bind fun r1 => some ((decide (r1 ≥ (0 : Int))))
def impl_all (n : Nat) (l0 : List Int) (least1 : Int) (most2 : Int) : Option Bool :=
  (slices_ContainsFunc_int_int__impl_all_1 n l0 least1 most2).bind fun r1 => some ((!r1))
def impl_HullOk_k0 {R : Type} (n : Nat) (kx0 : Option R) (kxr : Bool → Option R) (J : Int → Option R) (t6 : List (List Int)) (t7 : Int) (t10 : Int) (h9 : SHull) : Option R :=
  ix t10 t6.length (ix (0 : Int) h9.Half.length ((bif (!(decide (((t6.getD t10.toNat []).length : Int) = ((h9.Half.getD 0 []).length : Int)))) then kxr false else (impl_all n (t6.getD t10.toNat []) (0 : Int) (50 : Int)).bind fun r12 => (bif (!r12) then kxr false else J (w64 (t10 + (1 : Int)))))))
def impl_HullOk_L4 {R : Type} (n : Nat) (kx0 : Option R) (kxr : Bool → Option R) (J : Int → Option R) (t6 : List (List Int)) (t7 : Int) (t8 : Int) (h9 : SHull) : Option R :=
  (bif (decide (t8 < t7)) then impl_HullOk_k0 n kx0 kxr J t6 t7 t8 h9 else kx0)
def impl_HullOk (n : Nat) (h0 : SHull) : Option Bool :=
  (impl_in n h0.Step (1 : Int) (100 : Int)).bind fun r1 => (bif (!r1) then some (false) else (impl_in n h0.Rise (1 : Int) (20 : Int)).bind fun r2 => (bif (!r2) then some (false) else (impl_in n (h0.Half.length : Int) (2 : Int) (12 : Int)).bind fun r3 => (bif (!r3) then some (false) else ix (0 : Int) h0.Half.length ((impl_in n ((h0.Half.getD 0 []).length : Int) (2 : Int) (10 : Int)).bind fun r4 => (bif (!r4) then some (false) else loopN (fun (x : Int) J' => impl_HullOk_L4 n (some (true)) (fun t21 => some (t21)) J' h0.Half (h0.Half.length : Int) x h0) n ((0 : Int)))))))
def impl_waterOk (n : Nat) (h0 : SHull) (w1 : Int) : Option Bool :=
  (impl_HullOk n h0).bind fun r1 => (bif r1 then ix (0 : Int) h0.Half.length ((bd (w64 (((h0.Half.getD 0 []).length : Int) - (1 : Int))) fun (v2 : Int) => (impl_in n w1 (0 : Int) v2).bind fun r3 => some (r3))) else some (false))
def impl_Strips2_k0 {R : Type} (n : Nat) (kx2 : List Int → Option R) (J : Int → List Int → Option R) (w10 : Int) (i11 : Int) (t12 : Int) (t13 : Int) (t14 : Int) (t18 : Int) (h16 : SHull) (out19 : List Int) : Option R :=
  ix i11 out19.length (chk (decide (i11.toNat < out19.length)) ((bd (w64 (h16.Rise * h16.Step)) fun (v20 : Int) => ix i11 h16.Half.length (ix t18 ((h16.Half.getD i11.toNat []).length) (ix (w64 (i11 + (1 : Int))) h16.Half.length (ix t18 ((h16.Half.getD ((w64 (i11 + (1 : Int))).toNat) []).length) ((bd ((h16.Half.getD ((w64 (i11 + (1 : Int))).toNat) []).getD t18.toNat (0 : Int)) fun (e21 : Int) => (bd (w64 (((h16.Half.getD i11.toNat []).getD t18.toNat (0 : Int)) + e21)) fun (v22 : Int) => ix i11 h16.Half.length (ix (w64 (t18 + (1 : Int))) ((h16.Half.getD i11.toNat []).length) ((bd ((h16.Half.getD i11.toNat []).getD ((w64 (t18 + (1 : Int))).toNat) (0 : Int)) fun (e23 : Int) => ix (w64 (i11 + (1 : Int))) h16.Half.length (ix (w64 (t18 + (1 : Int))) ((h16.Half.getD ((w64 (i11 + (1 : Int))).toNat) []).length) ((bd ((h16.Half.getD ((w64 (i11 + (1 : Int))).toNat) []).getD ((w64 (t18 + (1 : Int))).toNat) (0 : Int)) fun (e24 : Int) => (bd (w64 ((w64 (v22 + e23)) + e24)) fun (v25 : Int) => (bd (w64 ((out19.getD i11.toNat (0 : Int)) + (w64 (v20 * v25)))) fun (v26 : Int) => ix i11 out19.length (chk (decide (i11.toNat < out19.length)) (J (w64 (t18 + (1 : Int))) (out19.set i11.toNat v26))))))))))))))))))))
def impl_Strips2_L8 {R : Type} (n : Nat) (kx2 : List Int → Option R) (J : Int → List Int → Option R) (w10 : Int) (i11 : Int) (t12 : Int) (t13 : Int) (t14 : Int) (t15 : Int) (h16 : SHull) (out17 : List Int) : Option R :=
  (bif (decide (t15 < t14)) then impl_Strips2_k0 n kx2 J w10 i11 t12 t13 t14 t15 h16 out17 else kx2 out17)
def impl_Strips2_L5 {R : Type} (n : Nat) (kx0 : List Int → Option R) (J : Int → List Int → Option R) (w3 : Int) (t4 : Int) (t5 : Int) (h6 : SHull) (out7 : List Int) : Option R :=
  (bif (decide (t5 < t4)) then loopN (fun (x : Int × List Int) J' => impl_Strips2_L8 n (fun out30 => J (w64 (t5 + (1 : Int))) out30) (fun t31 out32 => J' (t31, out32)) w3 t5 t4 t5 w3 x.1 h6 x.2) n ((0 : Int), out7) else kx0 out7)
def impl_Strips2_k1 (n : Nat)  (w1 : Int) (h0 : SHull) : Option (List Int) :=
  (bd (w64 ((h0.Half.length : Int) - (1 : Int))) fun (v2 : Int) => chk (decide ((0 : Int) ≤ v2)) (chk (decide (v2 ≤ v2)) (chk (decide (v2 ≤ 9223372036854775807 ∧ v2 * (8 : Int) ≤ 281474976710656)) (loopN (fun (x : Int × List Int) J' => impl_Strips2_L5 n (fun out33 => some (out33)) (fun t34 out35 => J' (t34, out35)) w1 ((List.replicate v2.toNat (0 : Int)).length : Int) x.1 h0 x.2) n ((0 : Int), (List.replicate v2.toNat (0 : Int)))))))
def impl_Strips2 (n : Nat) (h0 : SHull) (w1 : Int) : Option (List Int) :=
  (impl_waterOk n h0 w1).bind fun r1 => (bif (!r1) then some ([]) else impl_Strips2_k1 n  w1 h0)
def impl_sumOf_L3 {R : Type} (n : Nat) (kx0 : Int → Option R) (J : Int → Int → Option R) (s1 : Int) (t2 : List Int) (t3 : Int) (t4 : Int) : Option R :=
  (bif (decide (t4 < t3)) then ix t4 t2.length ((bd (w64 (s1 + (t2.getD t4.toNat (0 : Int)))) fun (v8 : Int) => J v8 (w64 (t4 + (1 : Int))))) else kx0 s1)
def impl_sumOf (n : Nat) (l0 : List Int) : Option Int :=
  loopN (fun (x : Int × Int) J' => impl_sumOf_L3 n (fun s9 => some (s9)) (fun s10 t11 => J' (s10, t11)) x.1 l0 (l0.length : Int) x.2) n ((0 : Int), (0 : Int))
def impl_Volume2 (n : Nat) (h0 : SHull) (w1 : Int) : Option Int :=
  (impl_Strips2 n h0 w1).bind fun r1 => (impl_sumOf n r1).bind fun r2 => some (r2)
def impl_MassesOk_1 (n : Nat) (m0 : SMass) : Option Bool :=
  (impl_in n m0.Weight (0 : Int) (10000 : Int)).bind fun r1 => (bif (!r1) then some (true) else (impl_in n m0.X (-1200 : Int) (2400 : Int)).bind fun r2 => (bif (!r2) then some (true) else (impl_in n m0.Z (0 : Int) (1000 : Int)).bind fun r3 => some ((!r3))))
def slices_IndexFunc_impl_Mass_impl_Mass__impl_MassesOk_1_L2 {R : Type} (n : Nat) (kx0 : Option R) (kxr : Int → Option R) (J : Int → Option R) (s1 : List SMass) (t2 : Int) (t3 : Int) : Option R :=
  (bif (decide (t3 < t2)) then ix t3 s1.length ((bd (s1.getD t3.toNat dSMass) fun (e8 : SMass) => (impl_MassesOk_1 n e8).bind fun r9 => (bif r9 then kxr t3 else J (w64 (t3 + (1 : Int)))))) else kx0)
def slices_IndexFunc_impl_Mass_impl_Mass__impl_MassesOk_1 (n : Nat) (s0 : List SMass) : Option Int :=
  loopN (fun (x : Int) J' => slices_IndexFunc_impl_Mass_impl_Mass__impl_MassesOk_1_L2 n (some ((-1 : Int))) (fun t11 => some (t11)) J' s0 (s0.length : Int) x) n ((0 : Int))
def slices_ContainsFunc_impl_Mass_impl_Mass__impl_MassesOk_1 (n : Nat) (s0 : List SMass) : Option Bool :=
  (slices_IndexFunc_impl_Mass_impl_Mass__impl_MassesOk_1 n s0).bind fun r1 => some ((decide (r1 ≥ (0 : Int))))
def impl_MassesOk (n : Nat) (list0 : List SMass) : Option Bool :=
  (bif (decide ((list0.length : Int) ≤ (40 : Int))) then (slices_ContainsFunc_impl_Mass_impl_Mass__impl_MassesOk_1 n list0).bind fun r1 => some ((!r1)) else some (false))
def impl_LoadOf_k0 {R : Type} (n : Nat) (kx0 : SMass → Option R) (J : Int → SMass → Option R) (t2 : List SMass) (t3 : Int) (t7 : Int) (t5 : SMass) (l8 : SMass) : Option R :=
  ix t7 t2.length ((bd (t2.getD t7.toNat dSMass) fun (e9 : SMass) => (bd (w64 (l8.Weight + e9.Weight)) fun (v10 : Int) => (bd (w64 (l8.X + (w64 (e9.Weight * e9.X)))) fun (v11 : Int) => (bd (w64 (l8.Z + (w64 (e9.Weight * e9.Z)))) fun (v12 : Int) => J (w64 (t7 + (1 : Int))) (⟨v10, v11, v12⟩ : SMass))))))
def impl_LoadOf_L5 {R : Type} (n : Nat) (kx0 : SMass → Option R) (J : Int → SMass → Option R) (t2 : List SMass) (t3 : Int) (t4 : Int) (t5 : SMass) (l6 : SMass) : Option R :=
  (bif (decide (t4 < t3)) then impl_LoadOf_k0 n kx0 J t2 t3 t4 t5 l6 else kx0 l6)
def impl_LoadOf_k1 (n : Nat)  (list0 : List SMass) : Option (SLoad × Bool) :=
  loopN (fun (x : Int × SMass) J' => impl_LoadOf_L5 n (fun l13 => some ((⟨l13.Weight, l13.X, l13.Z⟩ : SLoad), true)) (fun t14 l15 => J' (t14, l15)) list0 (list0.length : Int) x.1 (⟨(0 : Int), (0 : Int), (0 : Int)⟩ : SMass) x.2) n ((0 : Int), (⟨(0 : Int), (0 : Int), (0 : Int)⟩ : SMass))
def impl_LoadOf (n : Nat) (list0 : List SMass) : Option (SLoad × Bool) :=
  (impl_MassesOk n list0).bind fun r1 => (bif (!r1) then some ((⟨(0 : Int), (0 : Int), (0 : Int)⟩ : SLoad), false) else impl_LoadOf_k1 n  list0)
def impl_tanksOk_1 (n : Nat) (t0 : STank) : Option Bool :=
  (impl_in n t0.Length (0 : Int) (100 : Int)).bind fun r1 => (bif (!r1) then some (true) else (impl_in n t0.Breadth (0 : Int) (50 : Int)).bind fun r2 => some ((!r2)))
def slices_IndexFunc_impl_Tank_impl_Tank__impl_tanksOk_1_L2 {R : Type} (n : Nat) (kx0 : Option R) (kxr : Int → Option R) (J : Int → Option R) (s1 : List STank) (t2 : Int) (t3 : Int) : Option R :=
  (bif (decide (t3 < t2)) then ix t3 s1.length ((bd (s1.getD t3.toNat dSTank) fun (e8 : STank) => (impl_tanksOk_1 n e8).bind fun r9 => (bif r9 then kxr t3 else J (w64 (t3 + (1 : Int)))))) else kx0)
def slices_IndexFunc_impl_Tank_impl_Tank__impl_tanksOk_1 (n : Nat) (s0 : List STank) : Option Int :=
  loopN (fun (x : Int) J' => slices_IndexFunc_impl_Tank_impl_Tank__impl_tanksOk_1_L2 n (some ((-1 : Int))) (fun t11 => some (t11)) J' s0 (s0.length : Int) x) n ((0 : Int))
def slices_ContainsFunc_impl_Tank_impl_Tank__impl_tanksOk_1 (n : Nat) (s0 : List STank) : Option Bool :=
  (slices_IndexFunc_impl_Tank_impl_Tank__impl_tanksOk_1 n s0).bind fun r1 => some ((decide (r1 ≥ (0 : Int))))
def impl_tanksOk (n : Nat) (tanks0 : List STank) : Option Bool :=
  (bif (decide ((tanks0.length : Int) ≤ (10 : Int))) then (slices_ContainsFunc_impl_Tank_impl_Tank__impl_tanksOk_1 n tanks0).bind fun r1 => some ((!r1)) else some (false))
def impl_Plane_1 (n : Nat) (a0 : Int) (b1 : Int) : Option Int :=
  some ((w64 (a0 + b1)))
def impl_strips__impl_Plane_1_k0 {R : Type} (n : Nat) (kx0 : Int → Option R) (J : Int → Int → Option R) (w2 : Int) (s7 : Int) (t4 : Int) (t8 : Int) (h6 : SHull) : Option R :=
  ix t8 h6.Half.length (ix w2 ((h6.Half.getD t8.toNat []).length) (ix (w64 (t8 + (1 : Int))) h6.Half.length (ix w2 ((h6.Half.getD ((w64 (t8 + (1 : Int))).toNat) []).length) ((bd ((h6.Half.getD ((w64 (t8 + (1 : Int))).toNat) []).getD w2.toNat (0 : Int)) fun (e9 : Int) => (impl_Plane_1 n ((h6.Half.getD t8.toNat []).getD w2.toNat (0 : Int)) e9).bind fun r10 => (bd (w64 (s7 + (w64 (h6.Step * r10)))) fun (v11 : Int) => J v11 (w64 (t8 + (1 : Int)))))))))
def impl_strips__impl_Plane_1_L3 {R : Type} (n : Nat) (kx0 : Int → Option R) (J : Int → Int → Option R) (w2 : Int) (s3 : Int) (t4 : Int) (t5 : Int) (h6 : SHull) : Option R :=
  (bif (decide (t5 < t4)) then impl_strips__impl_Plane_1_k0 n kx0 J w2 s3 t4 t5 h6 else kx0 s3)
def impl_strips__impl_Plane_1 (n : Nat) (h0 : SHull) (w1 : Int) : Option Int :=
  (bd (w64 ((h0.Half.length : Int) - (1 : Int))) fun (v1 : Int) => loopN (fun (x : Int × Int) J' => impl_strips__impl_Plane_1_L3 n (fun s12 => some (s12)) (fun s13 t14 => J' (s13, t14)) w1 x.1 v1 x.2 h0) n ((0 : Int), (0 : Int)))
def impl_Plane (n : Nat) (h0 : SHull) (w1 : Int) : Option Int :=
  (impl_waterOk n h0 w1).bind fun r1 => (bif (!r1) then some ((0 : Int)) else (impl_strips__impl_Plane_1 n h0 w1).bind fun r3 => some (r3))
def impl_Height4_k0 {R : Type} (n : Nat) (kx0 : Int → Option R) (J : Int → Int → Option R) (s6 : Int) (t3 : Int) (t7 : Int) (h5 : SHull) : Option R :=
  (impl_Plane n h5 t7).bind fun r8 => (impl_Plane n h5 (w64 (t7 + (1 : Int)))).bind fun r9 => (bd (w64 (h5.Rise * (w64 (r8 + r9)))) fun (v10 : Int) => (bd (w64 ((w64 ((2 : Int) * t7)) + (1 : Int))) fun (v11 : Int) => (bd (w64 ((w64 (v10 * h5.Rise)) * v11)) fun (v12 : Int) => J (w64 (s6 + v12)) (w64 (t7 + (1 : Int))))))
def impl_Height4_L5 {R : Type} (n : Nat) (kx0 : Int → Option R) (J : Int → Int → Option R) (s2 : Int) (t3 : Int) (t4 : Int) (h5 : SHull) : Option R :=
  (bif (decide (t4 < t3)) then impl_Height4_k0 n kx0 J s2 t3 t4 h5 else kx0 s2)
def impl_Height4 (n : Nat) (h0 : SHull) (w1 : Int) : Option Int :=
  (impl_waterOk n h0 w1).bind fun r1 => (bif (!r1) then some ((0 : Int)) else loopN (fun (x : Int × Int) J' => impl_Height4_L5 n (fun s16 => some (s16)) (fun s17 t18 => J' (s17, t18)) x.1 w1 x.2 h0) n ((0 : Int), (0 : Int)))
def impl_Inertia3_1 (n : Nat) (a0 : Int) (b1 : Int) : Option Int :=
  (bd (w64 ((w64 (a0 * a0)) * a0)) fun (v1 : Int) => (bd (w64 ((w64 (b1 * b1)) * b1)) fun (v2 : Int) => some ((w64 (v1 + v2)))))
def impl_strips__impl_Inertia3_1_k0 {R : Type} (n : Nat) (kx0 : Int → Option R) (J : Int → Int → Option R) (w2 : Int) (s7 : Int) (t4 : Int) (t8 : Int) (h6 : SHull) : Option R :=
  ix t8 h6.Half.length (ix w2 ((h6.Half.getD t8.toNat []).length) (ix (w64 (t8 + (1 : Int))) h6.Half.length (ix w2 ((h6.Half.getD ((w64 (t8 + (1 : Int))).toNat) []).length) ((bd ((h6.Half.getD ((w64 (t8 + (1 : Int))).toNat) []).getD w2.toNat (0 : Int)) fun (e9 : Int) => (impl_Inertia3_1 n ((h6.Half.getD t8.toNat []).getD w2.toNat (0 : Int)) e9).bind fun r10 => (bd (w64 (s7 + (w64 (h6.Step * r10)))) fun (v11 : Int) => J v11 (w64 (t8 + (1 : Int)))))))))
def impl_strips__impl_Inertia3_1_L3 {R : Type} (n : Nat) (kx0 : Int → Option R) (J : Int → Int → Option R) (w2 : Int) (s3 : Int) (t4 : Int) (t5 : Int) (h6 : SHull) : Option R :=
  (bif (decide (t5 < t4)) then impl_strips__impl_Inertia3_1_k0 n kx0 J w2 s3 t4 t5 h6 else kx0 s3)
def impl_strips__impl_Inertia3_1 (n : Nat) (h0 : SHull) (w1 : Int) : Option Int :=
  (bd (w64 ((h0.Half.length : Int) - (1 : Int))) fun (v1 : Int) => loopN (fun (x : Int × Int) J' => impl_strips__impl_Inertia3_1_L3 n (fun s12 => some (s12)) (fun s13 t14 => J' (s13, t14)) w1 x.1 v1 x.2 h0) n ((0 : Int), (0 : Int)))
def impl_Inertia3 (n : Nat) (h0 : SHull) (w1 : Int) : Option Int :=
  (impl_waterOk n h0 w1).bind fun r1 => (bif (!r1) then some ((0 : Int)) else (impl_strips__impl_Inertia3_1 n h0 w1).bind fun r3 => some (r3))
def impl_size (n : Nat) (n0 : Int) : Option Int :=
  (bif (decide (n0 < (0 : Int))) then some ((w64 (0 - n0))) else some (n0))
def impl_gcd_L2 {R : Type} (n : Nat) (kx0 : Int → Option R) (J : Int → Int → Option R) (a3 : Int) (b4 : Int) : Option R :=
  (bif (!(decide (b4 = (0 : Int)))) then (bif decide (b4 = 0) then none else J b4 (Int.tmod a3 b4)) else kx0 a3)
def impl_gcd (n : Nat) (a0 : Int) (b1 : Int) : Option Int :=
  (impl_size n a0).bind fun r1 => (impl_size n b1).bind fun r2 => loopN (fun (x : Int × Int) J' => impl_gcd_L2 n (fun a7 => some (a7)) (fun a8 b9 => J' (a8, b9)) x.1 x.2) n (r1, r2)
def impl_fracOf (n : Nat) (num0 : Int) (den1 : Int) : Option SFrac :=
  (impl_gcd n num0 den1).bind fun r1 => (bif decide (r1 = 0) then none else (bif decide (r1 = 0) then none else some ((⟨(w64 (Int.tdiv num0 r1)), (w64 (Int.tdiv den1 r1))⟩ : SFrac))))
def impl_Metacentre_k0 {R : Type} (n : Nat) (kx0 : Int → Option R) (J : Int → Int → Option R) (w15 : Int) (v16 : Int) (free24 : Int) (t18 : List STank) (t19 : Int) (t25 : Int) (h21 : SHull) (t22 : SFrac) (l23 : SLoad) : Option R :=
  ix t25 t18.length ((bd (t18.getD t25.toNat dSTank) fun (e26 : STank) => (bd (w64 (e26.Length * e26.Breadth)) fun (v27 : Int) => (bd (w64 (v27 * e26.Breadth)) fun (v28 : Int) => (bd (w64 (v28 * e26.Breadth)) fun (v29 : Int) => J (w64 (free24 + v29)) (w64 (t25 + (1 : Int))))))))
def impl_Metacentre_L7 {R : Type} (n : Nat) (kx0 : Int → Option R) (J : Int → Int → Option R) (w15 : Int) (v16 : Int) (free17 : Int) (t18 : List STank) (t19 : Int) (t20 : Int) (h21 : SHull) (t22 : SFrac) (l23 : SLoad) : Option R :=
  (bif (decide (t20 < t19)) then impl_Metacentre_k0 n kx0 J w15 v16 free17 t18 t19 t20 h21 t22 l23 else kx0 free17)
def impl_Metacentre_k1 (n : Nat)  (w1 : Int) (tanks3 : List STank) (v13 : Int) (h0 : SHull) (l14 : SLoad) : Option (SFrac × Bool) :=
  loopN (fun (x : Int × Int) J' => impl_Metacentre_L7 n (fun free30 => (impl_Height4 n h0 w1).bind fun r31 => (impl_Inertia3 n h0 w1).bind fun r32 => (bd (w64 ((w64 ((3 : Int) * r31)) + (w64 ((4 : Int) * r32)))) fun (v33 : Int) => (bd (w64 ((w64 (v33 - free30)) * l14.Weight)) fun (v34 : Int) => (bd (w64 ((w64 ((6 : Int) * v13)) * l14.MZ)) fun (v35 : Int) => (bd (w64 ((w64 ((6 : Int) * v13)) * l14.Weight)) fun (v36 : Int) => (impl_fracOf n (w64 (v34 - v35)) v36).bind fun r37 => some (r37, true)))))) (fun free38 t39 => J' (free38, t39)) w1 v13 x.1 tanks3 (tanks3.length : Int) x.2 h0 (⟨(0 : Int), (0 : Int)⟩ : SFrac) l14) n ((0 : Int), (0 : Int))
def impl_Metacentre (n : Nat) (h0 : SHull) (w1 : Int) (list2 : List SMass) (tanks3 : List STank) : Option (SFrac × Bool) :=
  (impl_Volume2 n h0 w1).bind fun r1 => (impl_LoadOf n list2).bind fun r2 => (bif (decide (r1 = (0 : Int))) then some ((⟨(0 : Int), (0 : Int)⟩ : SFrac), false) else (bif (!r2.2) then some ((⟨(0 : Int), (0 : Int)⟩ : SFrac), false) else (bif (decide (r2.1.Weight = (0 : Int))) then some ((⟨(0 : Int), (0 : Int)⟩ : SFrac), false) else (impl_tanksOk n tanks3).bind fun r9 => (bif (!r9) then some ((⟨(0 : Int), (0 : Int)⟩ : SFrac), false) else impl_Metacentre_k1 n  w1 tanks3 r1 h0 r2.1))))
def spec_l1In (n : Nat) (x0 : Int) (a1 : Int) (b2 : Int) : Option Bool :=
  (bif (decide (x0 ≥ a1)) then some ((decide (x0 ≤ b2))) else some (false))
def spec_HullOk_L9 {R : Type} (n : Nat) (kx2 : Option R) (kxr : Bool → Option R) (J : Int → Option R) (s13 : Int) (w14 : Int) (h15 : SHull) : Option R :=
  ix s13 h15.Half.length ((bif (decide (w14 < ((h15.Half.getD s13.toNat []).length : Int))) then ix s13 h15.Half.length (ix w14 ((h15.Half.getD s13.toNat []).length) ((spec_l1In n ((h15.Half.getD s13.toNat []).getD w14.toNat (0 : Int)) (0 : Int) (50 : Int)).bind fun r19 => (bif (!r19) then kxr false else J (w64 (w14 + (1 : Int)))))) else kx2))
def spec_HullOk_k0 {R : Type} (n : Nat) (kx0 : Option R) (kxr : Bool → Option R) (J : Int → Option R) (s7 : Int) (h6 : SHull) : Option R :=
  ix s7 h6.Half.length (ix (0 : Int) h6.Half.length ((bif (!(decide (((h6.Half.getD s7.toNat []).length : Int) = ((h6.Half.getD 0 []).length : Int)))) then kxr false else ix s7 h6.Half.length ((spec_l1In n ((h6.Half.getD s7.toNat []).length : Int) (2 : Int) (10 : Int)).bind fun r9 => (bif (!r9) then kxr false else loopN (fun (x : Int) J' => spec_HullOk_L9 n (J (w64 (s7 + (1 : Int)))) (fun t29 => kxr t29) J' s7 x h6) n ((0 : Int)))))))
def spec_HullOk_L4 {R : Type} (n : Nat) (kx0 : Option R) (kxr : Bool → Option R) (J : Int → Option R) (s5 : Int) (h6 : SHull) : Option R :=
  (bif (decide (s5 < (h6.Half.length : Int))) then spec_HullOk_k0 n kx0 kxr J s5 h6 else kx0)
def spec_HullOk (n : Nat) (h0 : SHull) : Option Bool :=
  (spec_l1In n h0.Step (1 : Int) (100 : Int)).bind fun r1 => (bif (!r1) then some (false) else (spec_l1In n h0.Rise (1 : Int) (20 : Int)).bind fun r2 => (bif (!r2) then some (false) else (spec_l1In n (h0.Half.length : Int) (2 : Int) (12 : Int)).bind fun r3 => (bif (!r3) then some (false) else loopN (fun (x : Int) J' => spec_HullOk_L4 n (some (true)) (fun t35 => some (t35)) J' x h0) n ((0 : Int)))))
def spec_l1Water (n : Nat) (h0 : SHull) (w1 : Int) : Option Bool :=
  (spec_HullOk n h0).bind fun r1 => (bif r1 then ix (0 : Int) h0.Half.length ((bd (w64 (((h0.Half.getD 0 []).length : Int) - (1 : Int))) fun (v2 : Int) => (spec_l1In n w1 (0 : Int) v2).bind fun r3 => some (r3))) else some (false))
def spec_Strips2_k0 {R : Type} (n : Nat) (kx2 : Int → Option R) (J : Int → Int → Option R) (w8 : Int) (s9 : Int) (sum14 : Int) (k15 : Int) (h12 : SHull) (out13 : List Int) : Option R :=
  ix s9 h12.Half.length (ix k15 ((h12.Half.getD s9.toNat []).length) ((bd (w64 (sum14 + ((h12.Half.getD s9.toNat []).getD k15.toNat (0 : Int)))) fun (v16 : Int) => ix (w64 (s9 + (1 : Int))) h12.Half.length (ix k15 ((h12.Half.getD ((w64 (s9 + (1 : Int))).toNat) []).length) ((bd ((h12.Half.getD ((w64 (s9 + (1 : Int))).toNat) []).getD k15.toNat (0 : Int)) fun (e17 : Int) => ix s9 h12.Half.length (ix (w64 (k15 + (1 : Int))) ((h12.Half.getD s9.toNat []).length) ((bd ((h12.Half.getD s9.toNat []).getD ((w64 (k15 + (1 : Int))).toNat) (0 : Int)) fun (e18 : Int) => (bd (w64 ((w64 (v16 + e17)) + e18)) fun (v19 : Int) => ix (w64 (s9 + (1 : Int))) h12.Half.length (ix (w64 (k15 + (1 : Int))) ((h12.Half.getD ((w64 (s9 + (1 : Int))).toNat) []).length) ((bd ((h12.Half.getD ((w64 (s9 + (1 : Int))).toNat) []).getD ((w64 (k15 + (1 : Int))).toNat) (0 : Int)) fun (e20 : Int) => J (w64 (v19 + e20)) (w64 (k15 + (1 : Int))))))))))))))))
def spec_Strips2_L9 {R : Type} (n : Nat) (kx2 : Int → Option R) (J : Int → Int → Option R) (w8 : Int) (s9 : Int) (sum10 : Int) (k11 : Int) (h12 : SHull) (out13 : List Int) : Option R :=
  (bif (decide (k11 < w8)) then spec_Strips2_k0 n kx2 J w8 s9 sum10 k11 h12 out13 else kx2 sum10)
def spec_Strips2_k1 {R : Type} (n : Nat) (kx0 : List Int → Option R) (J : Int → List Int → Option R) (w2 : Int) (s6 : Int) (h4 : SHull) (out7 : List Int) : Option R :=
  loopN (fun (x : Int × Int) J' => spec_Strips2_L9 n (fun sum21 => (bd (w64 (h4.Rise * h4.Step)) fun (v22 : Int) => (bd (out7 ++ [(w64 (v22 * sum21))]) fun (l23 : List Int) => chk (decide (l23.length * 8 ≤ 140737488355328)) (J (w64 (s6 + (1 : Int))) l23)))) (fun sum24 k25 => J' (sum24, k25)) w2 s6 x.1 x.2 h4 out7) n ((0 : Int), (0 : Int))
def spec_Strips2_L5 {R : Type} (n : Nat) (kx0 : List Int → Option R) (J : Int → List Int → Option R) (w2 : Int) (s3 : Int) (h4 : SHull) (out5 : List Int) : Option R :=
  (bif (decide ((w64 (s3 + (1 : Int))) < (h4.Half.length : Int))) then spec_Strips2_k1 n kx0 J w2 s3 h4 out5 else kx0 out5)
def spec_Strips2 (n : Nat) (h0 : SHull) (w1 : Int) : Option (List Int) :=
  (spec_l1Water n h0 w1).bind fun r1 => (bif (!r1) then some ([]) else loopN (fun (x : Int × List Int) J' => spec_Strips2_L5 n (fun out29 => some (out29)) (fun s30 out31 => J' (s30, out31)) w1 x.1 h0 x.2) n ((0 : Int), []))
def spec_l1Sum_L3 {R : Type} (n : Nat) (kx0 : Int → Option R) (J : Int → Int → Option R) (list1 : List Int) (sum2 : Int) (i3 : Int) : Option R :=
  (bif (decide (i3 < (list1.length : Int))) then ix i3 list1.length ((bd (w64 (sum2 + (list1.getD i3.toNat (0 : Int)))) fun (v7 : Int) => J v7 (w64 (i3 + (1 : Int))))) else kx0 sum2)
def spec_l1Sum (n : Nat) (list0 : List Int) : Option Int :=
  loopN (fun (x : Int × Int) J' => spec_l1Sum_L3 n (fun sum8 => some (sum8)) (fun sum9 i10 => J' (sum9, i10)) list0 x.1 x.2) n ((0 : Int), (0 : Int))
def spec_Volume2 (n : Nat) (h0 : SHull) (w1 : Int) : Option Int :=
  (spec_Strips2 n h0 w1).bind fun r1 => (spec_l1Sum n r1).bind fun r2 => some (r2)
def laws_less_k0 (n : Nat)  (p3 : Int) (q4 : Int) (a0 : SFrac) (b1 : SFrac) : Option Bool :=
  (bif decide (b1.Den = 0) then none else (bif (decide ((Int.tmod b1.Num b1.Den) < (0 : Int))) then (bif (!(decide (p3 = (w64 (q4 - (1 : Int)))))) then some ((decide (p3 < (w64 (q4 - (1 : Int)))))) else (bd (w64 (a0.Num - (w64 (p3 * a0.Den)))) fun (v15 : Int) => (bd (w64 ((w64 (q4 - (1 : Int))) * b1.Den)) fun (v16 : Int) => (bd (w64 ((w64 (b1.Num - v16)) * a0.Den)) fun (v17 : Int) => some ((decide ((w64 (v15 * b1.Den)) < v17))))))) else (bif (!(decide (p3 = q4))) then some ((decide (p3 < q4))) else (bd (w64 (a0.Num - (w64 (p3 * a0.Den)))) fun (v22 : Int) => (bd (w64 (b1.Num - (w64 (q4 * b1.Den)))) fun (v23 : Int) => some ((decide ((w64 (v22 * b1.Den)) < (w64 (v23 * a0.Den))))))))))
def laws_less (n : Nat) (a0 : SFrac) (b1 : SFrac) : Option Bool :=
  (bif decide (a0.Den = 0) then none else (bd (w64 (Int.tdiv a0.Num a0.Den)) fun (v1 : Int) => (bif decide (b1.Den = 0) then none else (bd (w64 (Int.tdiv b1.Num b1.Den)) fun (v2 : Int) => (bif decide (a0.Den = 0) then none else (bif (decide ((Int.tmod a0.Num a0.Den) < (0 : Int))) then laws_less_k0 n  (w64 (v1 - (1 : Int))) v2 a0 b1 else laws_less_k0 n  v1 v2 a0 b1))))))
def laws_FnRaised_k0 (n : Nat)  (ok60 : Bool) (same61 : Bool) (t62 : List SMass) (a63 : SFrac) (b64 : SFrac) : Option Bool :=
  (bif ok60 then (bif same61 then (bif (decide (a63.Den > (0 : Int))) then (bif (decide (b64.Den > (0 : Int))) then (laws_less n a63 b64).bind fun r65 => (bif (!r65) then ix (1 : Int) t62.length (chk (decide (1 < t62.length)) ((bif (decide ((t62.getD 1 dSMass).Weight = (0 : Int))) then some (true) else some ((!((decide (a63.Num = b64.Num)) && (decide (a63.Den = b64.Den)))))))) else some (false)) else some (false)) else some (false)) else some (false)) else some (false))
def laws_FnRaised_k1 (n : Nat)  (code0 : List Int) : Option Bool :=
  (spec_DrawRightHull n code0).bind fun r2 => (laws_at n code0 (4 : Int)).bind fun r3 => (laws_at n code0 (5 : Int)).bind fun r4 => (laws_at n code0 (6 : Int)).bind fun r5 => (laws_at n code0 (7 : Int)).bind fun r6 => (impl_Metacentre n r2.1 r2.2 [(⟨(5 : Int), (0 : Int), (1 : Int)⟩ : SMass), (⟨(Int.tmod r3 (30 : Int)), (Int.tmod r4 (9 : Int)), (Int.tmod r5 (12 : Int))⟩ : SMass), (⟨(3 : Int), (0 : Int), (Int.tmod r6 (5 : Int))⟩ : SMass)] []).bind fun r7 => (impl_LoadOf n [(⟨(5 : Int), (0 : Int), (1 : Int)⟩ : SMass), (⟨(Int.tmod r3 (30 : Int)), (Int.tmod r4 (9 : Int)), (Int.tmod r5 (12 : Int))⟩ : SMass), (⟨(3 : Int), (0 : Int), (Int.tmod r6 (5 : Int))⟩ : SMass)]).bind fun r8 => (bd [(⟨(5 : Int), (0 : Int), (1 : Int)⟩ : SMass), (⟨(Int.tmod r3 (30 : Int)), (Int.tmod r4 (9 : Int)), (Int.tmod r5 (12 : Int))⟩ : SMass), (⟨(3 : Int), (0 : Int), (Int.tmod r6 (5 : Int))⟩ : SMass)] fun (l9 : List SMass) => chk (decide (l9.length * 24 ≤ 140737488355328)) (ix (1 : Int) l9.length (chk (decide (1 < l9.length)) ((bd (w64 ((l9.getD 1 dSMass).Z + (1 : Int))) fun (v10 : Int) => (laws_at n code0 (8 : Int)).bind fun r11 => (bd (w64 (v10 + (Int.tmod r11 (4 : Int)))) fun (v12 : Int) => ix (1 : Int) l9.length (chk (decide (1 < l9.length)) ((bd (l9.getD 1 dSMass) fun (e13 : SMass) => (bd (l9.set 1 (⟨e13.Weight, e13.X, v12⟩ : SMass)) fun (l14 : List SMass) => (impl_Metacentre n r2.1 r2.2 l14 []).bind fun r15 => (impl_LoadOf n l14).bind fun r16 => (bif (!r8.2) then some (false) else (bd (w64 (r16.1.MZ - r8.1.MZ)) fun (v26 : Int) => (bd (⟨(Int.tmod r3 (30 : Int)), (Int.tmod r4 (9 : Int)), (Int.tmod r5 (12 : Int))⟩ : SMass) fun (e27 : SMass) => ix (1 : Int) l14.length (chk (decide (1 < l14.length)) ((bd (⟨(Int.tmod r3 (30 : Int)), (Int.tmod r4 (9 : Int)), (Int.tmod r5 (12 : Int))⟩ : SMass) fun (e28 : SMass) => (bd (w64 ((l14.getD 1 dSMass).Z - e28.Z)) fun (v29 : Int) => (bif (!(decide (v26 = (w64 (e27.Weight * v29))))) then some (false) else (bif (!(decide (r16.1.Weight = r8.1.Weight))) then some (false) else (spec_Volume2 n r2.1 r2.2).bind fun r83 => (bif (decide (r83 = (0 : Int))) then (bif (!r7.2) then some ((!r15.2)) else some (false)) else laws_FnRaised_k0 n  r7.2 r15.2 [(⟨(5 : Int), (0 : Int), (1 : Int)⟩ : SMass), (⟨(Int.tmod r3 (30 : Int)), (Int.tmod r4 (9 : Int)), (Int.tmod r5 (12 : Int))⟩ : SMass), (⟨(3 : Int), (0 : Int), (Int.tmod r6 (5 : Int))⟩ : SMass)] r7.1 r15.1))))))))))))))))))))
def laws_FnRaised (n : Nat) (code0 : List Int) : Option Bool :=
  (laws_big n code0).bind fun r1 => (bif r1 then some (true) else laws_FnRaised_k1 n  code0)
def rng (a b x : Int) : Prop := a ≤ x ∧ x ≤ b
def wfSHull (x : SHull) : Prop := rng (-9223372036854775808) 9223372036854775807 x.Step ∧ rng (-9223372036854775808) 9223372036854775807 x.Rise ∧ (x.Half.length ≤ 9223372036854775807 ∧ ∀ y ∈ x.Half, (y.length ≤ 9223372036854775807 ∧ ∀ z ∈ y, rng (-9223372036854775808) 9223372036854775807 z))
def wfSl1Cur (x : Sl1Cur) : Prop := (x.b.length ≤ 9223372036854775807 ∧ ∀ y ∈ x.b, rng 0 255 y) ∧ rng (-9223372036854775808) 9223372036854775807 x.i ∧ rng (-9223372036854775808) 9223372036854775807 x.h
def wfSMass (x : SMass) : Prop := rng (-9223372036854775808) 9223372036854775807 x.Weight ∧ rng (-9223372036854775808) 9223372036854775807 x.X ∧ rng (-9223372036854775808) 9223372036854775807 x.Z
def wfSTank (x : STank) : Prop := rng (-9223372036854775808) 9223372036854775807 x.Length ∧ rng (-9223372036854775808) 9223372036854775807 x.Breadth
def wfSFrac (x : SFrac) : Prop := rng (-9223372036854775808) 9223372036854775807 x.Num ∧ rng (-9223372036854775808) 9223372036854775807 x.Den
def wfSLoad (x : SLoad) : Prop := rng (-9223372036854775808) 9223372036854775807 x.Weight ∧ rng (-9223372036854775808) 9223372036854775807 x.MX ∧ rng (-9223372036854775808) 9223372036854775807 x.MZ
end Go.Sm
end

section
set_option linter.unusedSimpArgs false
set_option linter.deprecated false
set_option linter.unusedSectionVars false
set_option linter.unusedVariables false
namespace Go.Sm
/-! ### Of the words that printed functions are made of -/
theorem w64_id {x : Int} (h1 : -9223372036854775808 ≤ x) (h2 : x ≤ 9223372036854775807) : w64 x = x := by
  show (let m := x % (2 ^ 64 : Int); if (true && decide ((2 : Int) ^ 63 ≤ m)) = true then m - 2 ^ 64 else m) = x
  simp only [Bool.true_and, decide_eq_true_eq]
  split <;> omega
theorem w64_rng (x : Int) : -9223372036854775808 ≤ w64 x ∧ w64 x ≤ 9223372036854775807 := by
  show -9223372036854775808 ≤ (let m := x % (2 ^ 64 : Int); if (true && decide ((2 : Int) ^ 63 ≤ m)) = true then m - 2 ^ 64 else m) ∧ (let m := x % (2 ^ 64 : Int); if (true && decide ((2 : Int) ^ 63 ≤ m)) = true then m - 2 ^ 64 else m) ≤ 9223372036854775807
  simp only [Bool.true_and, decide_eq_true_eq]
  split <;> omega
theorem chk_of {R : Type} {b : Bool} {x : Option R} (h : b = true) : chk b x = x := by rw [h]; rfl
theorem chk_true {R : Type} {x : Option R} : chk true x = x := rfl
theorem chk_dec {R : Type} {p : Prop} [Decidable p] {x : Option R} (h : p) : chk (decide p) x = x := chk_of (decide_eq_true h)
theorem ix_of {R : Type} {i : Int} {len : Nat} {x : Option R} (h0 : 0 ≤ i) (h1 : i < (len : Int)) : ix i len x = x := by
  unfold ix
  rw [decide_eq_true h0, decide_eq_true h1]
  rfl
theorem ix_nat {R : Type} {i len : Nat} {x : Option R} (h1 : i < len) : ix (i : Int) len x = x := ix_of (by omega) (by omega)
theorem bif_dec {α : Type} {p : Prop} [Decidable p] {x y : α} : (bif decide p then x else y) = if p then x else y := by
  by_cases h : p <;> simp [h]
theorem bif_not {α : Type} {b : Bool} {x y : α} : (bif !b then x else y) = bif b then y else x := by cases b <;> rfl
theorem bif_and {α : Type} {a b : Bool} {x y : α} : (bif a && b then x else y) = bif a then (bif b then x else y) else y := by cases a <;> rfl
theorem loopN_succ {X R : Type} (b : X → (X → Option R) → Option R) (m : Nat) (x : X) : loopN b (m + 1) x = b x (loopN b m) := rfl
/-- What holds of a loop: by what is left to go. -/
theorem loopN_ind {X R : Type} {b : X → (X → Option R) → Option R} (μ : X → Nat) (I : X → Prop) (Q : X → Option R → Prop)
    (h : ∀ x J, I x → (∀ y, I y → μ y < μ x → Q y (J y)) → Q x (b x J)) : ∀ n x, I x → μ x < n → Q x (loopN b n x)
  | 0, x, hi, hm => absurd hm (Nat.not_lt_zero _)
  | n + 1, x, hi, hm => h x (loopN b n) hi fun y hy hl => loopN_ind μ I Q h n y hy (by omega)
theorem getD_eq {α : Type} {l : List α} {i : Nat} {d : α} (h : i < l.length) : l.getD i d = l[i] := by
  simp [List.getD, h]
theorem w64_succ {k : Nat} (h : k < 9223372036854775807) : w64 ((k : Int) + 1) = ((k + 1 : Nat) : Int) := by
  rw [w64_id (by omega) (by omega)]
  rfl
theorem take_succ_getD {α : Type} {l : List α} {i : Nat} {d : α} (h : i < l.length) : l.take (i + 1) = l.take i ++ [l.getD i d] := by
  rw [List.take_succ, getD_eq h, List.getElem?_eq_getElem h]
  rfl
theorem drop_getD {α : Type} {l : List α} {i : Nat} {d : α} (h : i < l.length) : l.drop i = l.getD i d :: l.drop (i + 1) := by
  rw [getD_eq h]
  exact List.drop_eq_getElem_cons h
theorem bd_eq {α β : Type} (e : α) (f : α → β) : bd e f = f e := rfl
theorem bd_set {α β : Type} {Q : β → Prop} {F : List α → β} {p : List α} {i : Nat} {x : α} (h : ∀ l : List α, l.length = p.length → Q (F l)) : Q (bd (p.set i x) F) := h _ (by simp)
theorem bd_is {α β : Type} {Q : β → Prop} {F : α → β} {e : α} (h : ∀ v : α, v = e → Q (F v)) : Q (bd e F) := h _ rfl
theorem bd_val {α β : Type} {Q : β → Prop} {F : α → β} {e : α} (h : ∀ v : α, Q (F v)) : Q (bd e F) := h _
theorem chk_q {R : Type} {Q : Option R → Prop} {b : Bool} {x : Option R} (h : b = true) (hx : Q x) : Q (chk b x) := by rw [chk_of h]; exact hx
theorem ix_q {R : Type} {Q : Option R → Prop} {i : Int} {len : Nat} {x : Option R} (h0 : 0 ≤ i) (h1 : i < (len : Int)) (hx : Q x) : Q (ix i len x) := by rw [ix_of h0 h1]; exact hx
theorem bd_upd {α β : Type} {Q : β → Prop} {F : List α → β} {p : List α} {i : Nat} {x d : α} (hi : i < p.length) (h : ∀ l : List α, l.length = p.length → l.getD i d = x → (∀ j, j ≠ i → l.getD j d = p.getD j d) → Q (F l)) : Q (bd (p.set i x) F) :=
  h _ (by simp) (by simp [List.getD, hi]) (fun j hj => by simp [List.getD, List.getElem?_set, Ne.symm hj])
/-- A list written from the front. -/
theorem set_take {α : Type} {a : List α} {d : α} {m k : Nat} (h : k < a.length) (hm : m = a.length := by rfl) : (a.take k ++ (List.replicate m d).drop k).set k (a.getD k d) = a.take (k + 1) ++ (List.replicate m d).drop (k + 1) := by
  subst hm
  have h1 : (a.take k).length = k := by simp; omega
  rw [List.set_append_right _ _ (by omega), h1, Nat.sub_self, take_succ_getD h, List.append_assoc]
  congr 1
  rw [List.drop_eq_getElem_cons (by simp; exact h)]
  rfl
/-! ### Loops over 0 .. len, by what is left -/
/-- Steps k, k+1, .. told one after the other; J: what comes behind a step. -/
def forK {S R : Type} (step : Nat → S → (S → Option R) → Option R) (fin : S → Option R) : Nat → Nat → S → Option R
  | 0, _, s => fin s
  | m + 1, k, s => step k s fun s' => forK step fin m (k + 1) s'
theorem loop_forK {X S R : Type} {b : X → (X → Option R) → Option R} {enc : Nat → S → X} {len : Nat} {step : Nat → S → (S → Option R) → Option R} {fin : S → Option R} (I : Nat → S → Prop)
    (hstep : ∀ k s J J', k < len → I k s → (∀ s', I (k + 1) s' → J (enc (k + 1) s') = J' s') → b (enc k s) J = step k s J') (hfin : ∀ s J, I len s → b (enc len s) J = fin s) :
    ∀ m k s n, k + m = len → m < n → I k s → loopN b n (enc k s) = forK step fin m k s
  | 0, k, s, 0, _, h, _ => absurd h (Nat.lt_irrefl _)
  | 0, k, s, n + 1, hk, _, hi => by
    have hk : k = len := by omega
    subst hk
    exact hfin s _ hi
  | m + 1, k, s, 0, _, h, _ => absurd h (Nat.not_lt_zero _)
  | m + 1, k, s, n + 1, hk, hn, hi => by
    show b (enc k s) (loopN b n) = step k s fun s' => forK step fin m (k + 1) s'
    exact hstep k s _ _ (by omega) hi fun s' hi' => loop_forK I hstep hfin m (k + 1) s' n (by omega) (by omega) hi'
/-- The first k at which f answers; at none: z. -/
def scanK {R : Type} (f : Nat → Option (Option R)) (z : Option R) : Nat → Nat → Option R
  | 0, _ => z
  | m + 1, k => match f k with
    | some r => r
    | none => scanK f z m (k + 1)
theorem loop_scan {X R : Type} {b : X → (X → Option R) → Option R} {enc : Nat → X} {len : Nat} {f : Nat → Option (Option R)} {z : Option R}
    (hstep : ∀ k J, k < len → b (enc k) J = match f k with | some r => r | none => J (enc (k + 1))) (hfin : ∀ J, b (enc len) J = z) :
    ∀ m k n, k + m = len → m < n → loopN b n (enc k) = scanK f z m k
  | 0, k, 0, _, h => absurd h (Nat.lt_irrefl _)
  | 0, k, n + 1, hk, _ => by
    have hk : k = len := by omega
    subst hk
    exact hfin _
  | m + 1, k, 0, _, h => absurd h (Nat.not_lt_zero _)
  | m + 1, k, n + 1, hk, hn => by
    show b (enc k) (loopN b n) = _
    rw [hstep k _ (by omega)]
    unfold scanK
    cases f k with
    | some r => rfl
    | none => exact loop_scan hstep hfin m (k + 1) n (by omega) (by omega)
/-- Is p so of all of k, .. k + m - 1? -/
theorem scan_all {R : Type} {p : Nat → Bool} {r z : Option R} : ∀ m k, scanK (fun k => bif p k then none else some r) z m k = bif (List.range' k m).all p then z else r
  | 0, k => rfl
  | m + 1, k => by
    rw [scanK, List.range'_succ, List.all_cons]
    cases h : p k with
    | true => simp only [cond_true, Bool.true_and]; exact scan_all m (k + 1)
    | false => rfl
theorem scan_any {R : Type} {p : Nat → Bool} {r z : Option R} : ∀ m k, scanK (fun k => bif p k then some r else none) z m k = bif (List.range' k m).any p then r else z
  | 0, k => rfl
  | m + 1, k => by
    rw [scanK, List.range'_succ, List.any_cons]
    cases h : p k with
    | false => simp only [cond_false, Bool.false_or]; exact scan_any m (k + 1)
    | true => rfl
theorem mgetI_mputI {β : Type} (l : List (Int × β)) (n m : Int) (v : β) : mgetI (mputI l n v) m = if m = n then some v else mgetI l m := by
  unfold mgetI mputI
  induction l with
  | nil =>
    by_cases h : m = n <;> simp [h]
  | cons a l ih =>
    rw [List.findIdx?_cons]
    by_cases h : n = a.1
    · simp only [h, decide_true, if_true, Option.elim_some, List.set_cons_zero, List.find?_cons]
      by_cases h2 : m = a.1
      · simp [h2]
      · simp [h2]
    · simp only [h, decide_false, Bool.false_eq_true, if_false]
      cases hf : l.findIdx? (fun e => decide (n = e.1)) with
      | none =>
        rw [hf] at ih
        simp only [Option.elim_none] at ih
        simp only [Option.map_none, Option.elim_none, List.cons_append, List.find?_cons]
        by_cases h2 : m = a.1
        · have : m ≠ n := fun e => h (e ▸ h2)
          simp [h2]
          simp [h2] at this
          simp [this]
        · simp only [h2, decide_false]
          exact ih
      | some i =>
        rw [hf] at ih
        simp only [Option.elim_some] at ih
        simp only [Option.map_some, Option.elim_some, List.set_cons_succ, List.find?_cons]
        by_cases h2 : m = a.1
        · have : m ≠ n := fun e => h (e ▸ h2)
          simp [h2]
          simp [h2] at this
          simp [this]
        · simp only [h2, decide_false]
          exact ih
theorem mgetI_nil {β : Type} (m : Int) : mgetI ([] : List (Int × β)) m = none := rfl
/-! ### Chains of tests -/
theorem bif_and' {α : Type} {a b : Bool} {x y : α} : (bif a then (bif b then x else y) else y) = bif a && b then x else y := by cases a <;> rfl
theorem bif_or' {α : Type} {a b : Bool} {x y : α} : (bif a then y else (bif b then x else y)) = bif !a && b then x else y := by cases a <;> rfl
theorem bif_and2 {α : Type} {a b : Bool} {x y : α} : (bif a then (bif b then y else x) else y) = bif a && !b then x else y := by cases a <;> cases b <;> rfl
theorem bif_or2 {α : Type} {a b : Bool} {x y : α} : (bif a then y else (bif b then y else x)) = bif !a && !b then x else y := by cases a <;> cases b <;> rfl
theorem bif_some {α β : Type} {a : Bool} {x y : α} {f : α → Option β} : (bif a then some x else some y).bind f = bif a then f x else f y := by cases a <;> rfl
theorem bif_tf {a : Bool} : (bif a then some true else some false) = some a := by cases a <;> rfl
theorem bif_ft {a : Bool} : (bif a then some false else some true) = some (!a) := by cases a <;> rfl
theorem bif_sf {a b : Bool} : (bif a then some b else some false) = some (a && b) := by cases a <;> rfl
theorem all_range_succ {p : Nat → Bool} {k : Nat} : (List.range (k + 1)).all p = ((List.range k).all p && p k) := by
  rw [List.range_succ, List.all_append]
  simp
theorem any_range_succ {p : Nat → Bool} {k : Nat} : (List.range (k + 1)).any p = ((List.range k).any p || p k) := by
  rw [List.range_succ, List.any_append]
  simp
theorem all_range_not {p : Nat → Bool} {k m : Nat} (hk : k < m) (h : p k = false) : (List.range m).all p = false := by
  rw [Bool.eq_false_iff]
  intro e
  rw [List.all_eq_true] at e
  rw [e k (List.mem_range.2 hk)] at h
  cases h
theorem any_range_of {p : Nat → Bool} {k m : Nat} (hk : k < m) (h : p k = true) : (List.range m).any p = true := by
  rw [List.any_eq_true]
  exact ⟨k, List.mem_range.2 hk, h⟩
/-- A loop that looks at k = 0, 1, .. and leaves at the first that is not so. -/
theorem loop_all {R : Type} {b : Int → (Int → Option R) → Option R} {len : Nat} {p : Nat → Bool} {no yes : Option R} (hlen : len ≤ 9223372036854775807)
    (hstep : ∀ (k : Nat) (J : Int → Option R), k < len → (∀ j, j < k → p j = true) → b (k : Int) J = bif p k then J ((k + 1 : Nat) : Int) else no) (hfin : ∀ J, (∀ j, j < len → p j = true) → b (len : Int) J = yes) {n : Nat} (hn : len < n) :
    loopN b n (0 : Int) = bif (List.range len).all p then yes else no := by
  refine loopN_ind (fun x => len - x.toNat) (fun x => ∃ k : Nat, k ≤ len ∧ x = (k : Int) ∧ (List.range k).all p = true) (fun x r => r = bif (List.range len).all p then yes else no) ?_ n _ ⟨0, by omega, rfl, rfl⟩ (by simp; omega)
  rintro _ J ⟨k, hk, rfl, hb⟩ ih
  have hb' : ∀ j, j < k → p j = true := fun j hj => List.all_eq_true.1 hb j (List.mem_range.2 hj)
  by_cases h : k < len
  · rw [hstep k J h hb']
    cases hp : p k with
    | true => exact ih _ ⟨k + 1, h, rfl, by rw [all_range_succ, hb, hp]; rfl⟩ (by simp; omega)
    | false => rw [all_range_not h hp]; rfl
  · have : k = len := by omega
    subst this
    rw [hfin _ hb', hb]
    rfl
/-- The same, a state turned on the way (its invariant: I). -/
theorem loop_allS {S R : Type} {X : Type} {enc : Int → S → X} {b : X → (X → Option R) → Option R} {len : Nat} {p : Nat → Bool} {I : Nat → S → Prop} {no yes : Option R}
    (hstep : ∀ (k : Nat) (s : S) (J : X → Option R), k < len → I k s → (∀ j, j < k → p j = true) → ∃ s', (p k = true → I (k + 1) s') ∧ b (enc (k : Int) s) J = bif p k then J (enc ((k + 1 : Nat) : Int) s') else no) (hfin : ∀ s J, I len s → (∀ j, j < len → p j = true) → b (enc (len : Int) s) J = yes) {n : Nat} (hn : len < n) {s0 : S} (h0 : I 0 s0) :
    loopN b n (enc (0 : Int) s0) = bif (List.range len).all p then yes else no := by
  have key : ∀ m (k : Nat) (s : S) n, k + m = len → m < n → I k s → (List.range k).all p = true → loopN b n (enc (k : Int) s) = bif (List.range len).all p then yes else no := by
    intro m
    induction m with
    | zero =>
      intro k s n hk hn hi hb
      have hb' : ∀ j, j < k → p j = true := fun j hj => List.all_eq_true.1 hb j (List.mem_range.2 hj)
      have hk : k = len := by omega
      subst hk
      cases n with
      | zero => omega
      | succ n => rw [loopN_succ, hfin s _ hi hb', hb]; rfl
    | succ m ih =>
      intro k s n hk hn hi hb
      have hb' : ∀ j, j < k → p j = true := fun j hj => List.all_eq_true.1 hb j (List.mem_range.2 hj)
      cases n with
      | zero => omega
      | succ n =>
        rw [loopN_succ]
        obtain ⟨s', h1, h2⟩ := hstep k s (loopN b n) (by omega) hi hb'
        rw [h2]
        cases hp : p k with
        | true => exact ih (k + 1) s' n (by omega) (by omega) (h1 hp) (by rw [all_range_succ, hb, hp]; rfl)
        | false => rw [all_range_not (by omega : k < len) hp]; rfl
  exact key len 0 s0 n (by omega) hn h0 rfl
/-- A loop over 0 .. len that never leaves early; its state: I. -/
theorem loop_runS {S R : Type} {X : Type} {enc : Int → S → X} {b : X → (X → Option R) → Option R} {len : Nat} {I : Nat → S → Prop} {Q : Option R → Prop}
    (hstep : ∀ (k : Nat) (s : S) (J : X → Option R), k < len → I k s → ∃ s', I (k + 1) s' ∧ b (enc (k : Int) s) J = J (enc ((k + 1 : Nat) : Int) s')) (hfin : ∀ s J, I len s → Q (b (enc (len : Int) s) J)) {n : Nat} (hn : len < n) {s0 : S} (h0 : I 0 s0) :
    Q (loopN b n (enc (0 : Int) s0)) := by
  have key : ∀ m (k : Nat) (s : S) n, k + m = len → m < n → I k s → Q (loopN b n (enc (k : Int) s)) := by
    intro m
    induction m with
    | zero =>
      intro k s n hk hn hi
      have hk : k = len := by omega
      subst hk
      cases n with
      | zero => omega
      | succ n => rw [loopN_succ]; exact hfin s _ hi
    | succ m ih =>
      intro k s n hk hn hi
      cases n with
      | zero => omega
      | succ n =>
        rw [loopN_succ]
        obtain ⟨s', h1, h2⟩ := hstep k s (loopN b n) (by omega) hi
        rw [h2]
        exact ih (k + 1) s' n (by omega) (by omega) h1
  exact key len 0 s0 n (by omega) hn h0
/-! ### Sums over lists -/
def sumOf {α : Type} (f : α → Nat) : List α → Nat
  | [] => 0
  | a :: l => f a + sumOf f l
theorem sumOf_append {α : Type} (f : α → Nat) : ∀ a b : List α, sumOf f (a ++ b) = sumOf f a + sumOf f b
  | [], b => by simp [sumOf]
  | x :: a, b => by simp only [List.cons_append, sumOf, sumOf_append f a b]; omega
theorem sumOf_take_succ {α : Type} {f : α → Nat} {l : List α} {k : Nat} {d : α} (h : k < l.length) : sumOf f (l.take (k + 1)) = sumOf f (l.take k) + f (l.getD k d) := by
  rw [take_succ_getD (d := d) h, sumOf_append]
  simp [sumOf]
theorem sumOf_take_le {α : Type} (f : α → Nat) (l : List α) (k : Nat) : sumOf f (l.take k) ≤ sumOf f l := by
  have := sumOf_append f (l.take k) (l.drop k)
  rw [List.take_append_drop] at this
  omega
theorem sumOf_mem {α : Type} {f : α → Nat} {l : List α} {k : Nat} {d : α} (h : k < l.length) : f (l.getD k d) ≤ sumOf f l := by
  have h1 := sumOf_take_succ (f := f) (d := d) h
  have h2 := sumOf_take_le f l (k + 1)
  omega
theorem sumOf_lin {α : Type} {f g : α → Nat} {c s : Nat} (h : ∀ y, f y ≤ c * g y + s) : ∀ l : List α, sumOf f l ≤ c * sumOf g l + s * l.length
  | [] => by simp [sumOf]
  | a :: l => by
    have h1 := h a
    have h2 := sumOf_lin h l
    simp only [sumOf, List.length_cons, Nat.mul_add, Nat.mul_succ]
    omega
theorem sumOf_const {α : Type} (c : Nat) : ∀ l : List α, sumOf (fun _ => c) l = c * l.length
  | [] => by simp [sumOf]
  | a :: l => by simp only [sumOf, sumOf_const c l, List.length_cons, Nat.mul_succ]; omega
theorem getD_set {α : Type} {l : List α} {k : Nat} {x d : α} (h : k < l.length) : (l.set k x).getD k d = x := by simp [List.getD, h]
theorem getD_set_ne {α : Type} {l : List α} {k j : Nat} {x d : α} (h : j ≠ k) : (l.set k x).getD j d = l.getD j d := by simp [List.getD, List.getElem?_set, Ne.symm h]
theorem getD_mem {α : Type} {l : List α} {k : Nat} {d : α} (h : k < l.length) : l.getD k d ∈ l := by rw [getD_eq h]; exact List.getElem_mem h
theorem take_drop_set {α : Type} {a : List α} {d : α} {m k : Nat} {x : α} (h : k < a.length) (hm : m = a.length) (hx : x = a.getD k d) : (a.take k ++ (List.replicate m d).drop k).set k x = a.take (k + 1) ++ (List.replicate m d).drop (k + 1) := by
  subst hx
  exact set_take h hm
/-! ### The first that is so -/
def idxOf (p : Nat → Bool) (m : Nat) : Int := match (List.range m).find? p with
  | some k => (k : Int)
  | none => -1
theorem find_range_none {p : Nat → Bool} {m : Nat} (h : ∀ j, j < m → p j = false) : (List.range m).find? p = none := by
  rw [List.find?_eq_none]
  intro x hx
  rw [h x (List.mem_range.1 hx)]
  simp
theorem find_range_some {p : Nat → Bool} {m k : Nat} (hk : k < m) (hp : p k = true) (h : ∀ j, j < k → p j = false) : (List.range m).find? p = some k := by
  have e : m = k + (m - k) := by omega
  rw [e, List.range_add, List.find?_append, find_range_none h, Option.none_or]
  obtain ⟨r, hr⟩ : ∃ r, m - k = r + 1 := ⟨m - k - 1, by omega⟩
  rw [hr, List.range_succ_eq_map]
  simp [hp]
theorem idxOf_ge (p : Nat → Bool) (m : Nat) : decide (idxOf p m ≥ 0) = (List.range m).any p := by
  unfold idxOf
  cases h : (List.range m).find? p with
  | none =>
    rw [List.find?_eq_none] at h
    rw [show (List.range m).any p = false from by rw [List.any_eq_false]; exact h]
    rfl
  | some k =>
    have h1 := List.find?_some h
    rw [show (List.range m).any p = true from List.any_eq_true.2 ⟨k, List.mem_of_find?_eq_some h, h1⟩]
    exact decide_eq_true (by show (0 : Int) ≤ (k : Int); omega)
theorem idxOf_lt (p : Nat → Bool) (m : Nat) : decide (idxOf p m < 0) = !(List.range m).any p := by
  rw [← idxOf_ge]
  by_cases h : idxOf p m < 0
  · rw [decide_eq_true h, decide_eq_false (by omega)]; rfl
  · rw [decide_eq_false h, decide_eq_true (by omega)]; rfl
theorem find_range (p : Nat → Bool) : ∀ m, ((List.range m).find? p = none ∧ ∀ j, j < m → p j = false) ∨ ∃ k, (List.range m).find? p = some k ∧ k < m ∧ p k = true ∧ ∀ j, j < k → p j = false
  | 0 => .inl ⟨rfl, fun j hj => absurd hj (Nat.not_lt_zero _)⟩
  | m + 1 => by
    rcases find_range p m with ⟨h1, h2⟩ | ⟨k, h1, h2, h3, h4⟩
    · cases hp : p m with
      | true => exact .inr ⟨m, find_range_some (by omega) hp h2, by omega, hp, h2⟩
      | false =>
        have : ∀ j, j < m + 1 → p j = false := fun j hj => by
          by_cases e : j = m
          · rw [e]; exact hp
          · exact h2 j (by omega)
        exact .inl ⟨find_range_none this, this⟩
    · exact .inr ⟨k, find_range_some (by omega) h3 h4, by omega, h3, h4⟩
theorem idxOf_spec (p : Nat → Bool) (m : Nat) : (idxOf p m = -1 ∧ ∀ j, j < m → p j = false) ∨ ∃ k : Nat, idxOf p m = (k : Int) ∧ k < m ∧ p k = true ∧ ∀ j, j < k → p j = false := by
  unfold idxOf
  rcases find_range p m with ⟨h1, h2⟩ | ⟨k, h1, h2, h3, h4⟩
  · rw [h1]; exact .inl ⟨rfl, h2⟩
  · rw [h1]; exact .inr ⟨k, rfl, h2, h3, h4⟩
/-- A loop that looks at k = 0, 1, .. and leaves at the first that is so. -/
theorem loop_find {R : Type} {b : Int → (Int → Option R) → Option R} {len : Nat} {p : Nat → Bool} {yes : Nat → Option R} {no : Option R} (hlen : len ≤ 9223372036854775807)
    (hstep : ∀ (k : Nat) (J : Int → Option R), k < len → (∀ j, j < k → p j = false) → b (k : Int) J = bif p k then yes k else J ((k + 1 : Nat) : Int)) (hfin : ∀ J, (∀ j, j < len → p j = false) → b (len : Int) J = no) {n : Nat} (hn : len < n) :
    loopN b n (0 : Int) = match (List.range len).find? p with | some k => yes k | none => no := by
  refine loopN_ind (fun x => len - x.toNat) (fun x => ∃ k : Nat, k ≤ len ∧ x = (k : Int) ∧ ∀ j, j < k → p j = false) (fun x r => r = match (List.range len).find? p with | some k => yes k | none => no) ?_ n _ ⟨0, by omega, rfl, fun j hj => absurd hj (Nat.not_lt_zero _)⟩ (by simp; omega)
  rintro _ J ⟨k, hk, rfl, hb⟩ ih
  by_cases h : k < len
  · rw [hstep k J h hb]
    cases hp : p k with
    | false => exact ih _ ⟨k + 1, h, rfl, fun j hj => by
        by_cases e : j = k
        · rw [e]; exact hp
        · exact hb j (by omega)⟩ (by simp; omega)
    | true => rw [find_range_some h hp hb]; rfl
  · have : k = len := by omega
    subst this
    rw [hfin _ hb, find_range_none hb]
theorem loop_idx {b : Int → (Int → Option Int) → Option Int} {len : Nat} {p : Nat → Bool} (hlen : len ≤ 9223372036854775807)
    (hstep : ∀ (k : Nat) (J : Int → Option Int), k < len → (∀ j, j < k → p j = false) → b (k : Int) J = bif p k then some (k : Int) else J ((k + 1 : Nat) : Int)) (hfin : ∀ J, (∀ j, j < len → p j = false) → b (len : Int) J = some (-1)) {n : Nat} (hn : len < n) :
    loopN b n (0 : Int) = some (idxOf p len) := by
  rw [loop_find (yes := fun k => some (k : Int)) (no := some (-1)) hlen hstep hfin hn]
  unfold idxOf
  cases (List.range len).find? p <;> rfl
theorem byteAt_rng (s : ByteArray) (k : Nat) : 0 ≤ byteAt s k ∧ byteAt s k ≤ 255 := by
  unfold byteAt
  have := (s.data.getD k 0).toNat_lt
  omega
theorem range_any {α : Type} {l : List α} {d : α} {f : α → Bool} : (List.range l.length).any (fun k => f (l.getD k d)) = l.any f := by
  induction l with
  | nil => rfl
  | cons a l ih =>
    rw [List.length_cons, List.range_succ_eq_map, List.any_cons, List.any_map, List.any_cons, ← ih]
    rfl
theorem range_all {α : Type} {l : List α} {d : α} {f : α → Bool} : (List.range l.length).all (fun k => f (l.getD k d)) = l.all f := by
  induction l with
  | nil => rfl
  | cons a l ih =>
    rw [List.length_cons, List.range_succ_eq_map, List.all_cons, List.all_map, List.all_cons, ← ih]
    rfl
theorem all_congr_lt {p q : Nat → Bool} {m : Nat} (h : ∀ k, k < m → p k = q k) : (List.range m).all p = (List.range m).all q := by
  rw [Bool.eq_iff_iff, List.all_eq_true, List.all_eq_true]
  constructor
  · intro g x hx; rw [← h x (List.mem_range.1 hx)]; exact g x hx
  · intro g x hx; rw [h x (List.mem_range.1 hx)]; exact g x hx
theorem any_congr_lt {p q : Nat → Bool} {m : Nat} (h : ∀ k, k < m → p k = q k) : (List.range m).any p = (List.range m).any q := by
  rw [Bool.eq_iff_iff, List.any_eq_true, List.any_eq_true]
  constructor
  · rintro ⟨x, hx, g⟩; exact ⟨x, hx, by rw [← h x (List.mem_range.1 hx)]; exact g⟩
  · rintro ⟨x, hx, g⟩; exact ⟨x, hx, by rw [h x (List.mem_range.1 hx)]; exact g⟩
theorem guard_sz {w : Nat} {x : Option Bool} (h : w ≤ 1048576 → x = some true) : (bif decide ((if (w : Int) ≤ 1048576 then 1048576 - (w : Int) else -1) < 0) then some true else x) = some true := by
  by_cases c : (w : Int) ≤ 1048576
  · rw [if_pos c, decide_eq_false (by omega), cond_false]
    exact h (by omega)
  · rw [if_neg c]
    rfl
end Go.Sm
end

section
set_option linter.unusedSimpArgs false
set_option linter.deprecated false
set_option linter.unusedSectionVars false
set_option linter.unusedVariables false
set_option linter.unusedSimpArgs false
namespace Go.Sm
attribute [local irreducible] bd chk ix loopN
/-! ### Draws -/
structure CurOk (c : Sl1Cur) : Prop where
  i : 0 ≤ c.i ∧ c.i ≤ (c.b.length : Int)
  len : c.b.length ≤ 1048576
theorem and255 (v : Int) : 0 ≤ w64 (((BitVec.ofInt 64 v &&& BitVec.ofInt 64 (255 : Int)).toNat : Nat) : Int) ∧ w64 (((BitVec.ofInt 64 v &&& BitVec.ofInt 64 (255 : Int)).toNat : Nat) : Int) ≤ 255 := by
  have h : (BitVec.ofInt 64 v &&& BitVec.ofInt 64 (255 : Int)).toNat ≤ 255 := by
    rw [BitVec.toNat_and]
    exact Nat.and_le_right
  rw [w64_id (by omega) (by omega)]
  omega
theorem byte_ok {n : Nat} {c : Sl1Cur} (h : CurOk c) : ∃ v c', spec_l1Byte n c = some (v, c') ∧ (0 ≤ v ∧ v ≤ 255) ∧ CurOk c' := by
  have h1 := h.i
  have h2 := h.len
  unfold spec_l1Byte
  simp only [bd_eq]
  by_cases hc : c.i < (c.b.length : Int)
  · rw [decide_eq_true hc, cond_true, ix_of h1.1 hc]
    refine ⟨_, _, rfl, and255 _, ⟨?_, h2⟩⟩
    show 0 ≤ w64 (c.i + 1) ∧ w64 (c.i + 1) ≤ (c.b.length : Int)
    rw [w64_id (by omega) (by omega)]
    omega
  · rw [decide_eq_false hc, cond_false]
    exact ⟨_, _, rfl, and255 _, ⟨h1, h2⟩⟩
theorem below_ok {n : Nat} {c : Sl1Cur} (h : CurOk c) {m : Int} (hm : 1 ≤ m ∧ m ≤ 256) : ∃ v c', spec_l1Below n c m = some (v, c') ∧ (0 ≤ v ∧ v < m) ∧ CurOk c' := by
  obtain ⟨v, c', h1, h2, h3⟩ := byte_ok (n := n) h
  unfold spec_l1Below
  rw [decide_eq_false (show ¬ m ≤ 0 by omega), cond_false, decide_eq_true (show m ≤ 256 by omega), cond_true, h1, Option.bind_some, decide_eq_false (show ¬ m = 0 by omega), cond_false]
  exact ⟨_, _, rfl, ⟨Int.tmod_nonneg _ h2.1, Int.tmod_lt_of_pos _ (by omega)⟩, h3⟩
theorem once_ok {n : Nat} {c : Sl1Cur} (h : CurOk c) {m : Int} (hm : 1 ≤ m ∧ m ≤ 256) : ∃ v c', spec_l1Once n c m = some (v, c') ∧ CurOk c' := by
  obtain ⟨v, c', h1, h2, h3⟩ := below_ok (n := n) h hm
  unfold spec_l1Once
  rw [h1, Option.bind_some]
  exact ⟨_, _, rfl, h3⟩
def Row (w : Nat) (l : List Int) : Prop := l.length = w ∧ ∀ x ∈ l, 0 ≤ x ∧ x ≤ 50
theorem row_ok {R : Type} {n : Nat} (kx2 : Sl1Cur → List Int → Option R) (w : Nat) (hw : w ≤ 10) (n9 s25 t29 t30 h32 h33 x : Int) (c31 c34 : List (List Int)) {p : Sl1Cur} (hp : CurOk p) (hx : 0 ≤ x ∧ x ≤ 50) (hn : 1000000000 < n) :
    ∃ p' row, CurOk p' ∧ Row w row ∧ loopN (fun (x : Int × Int × Sl1Cur × List Int) J' => spec_l1DrawHull_L12 n kx2 (fun x74 k75 p76 row77 => J' (x74, k75, p76, row77)) n9 (w : Int) s25 x.1 x.2.1 x.2.2.1 t29 t30 c31 h32 h33 c34 x.2.2.2) n (x, (0 : Int), p, []) = kx2 p' row := by
  refine loop_runS (S := Int × Sl1Cur × List Int) (X := Int × Int × Sl1Cur × List Int) (enc := fun k s => (s.1, k, s.2.1, s.2.2)) (len := w) (I := fun k s => (0 ≤ s.1 ∧ s.1 ≤ 50) ∧ CurOk s.2.1 ∧ Row k s.2.2)
    (Q := fun r => ∃ p' row, CurOk p' ∧ Row w row ∧ r = kx2 p' row) (fun k s J hk hI => ?_) (fun s J hI => ?_) (by omega) (s0 := (x, p, [])) ⟨hx, hp, rfl, fun y hy => by cases hy⟩
  · obtain ⟨i1, i2, i3, i4⟩ := hI
    obtain ⟨a, p1, e1, a1, q1⟩ := below_ok (n := n) i2 (m := 6) (by omega)
    obtain ⟨b, p2, e2, q2⟩ := once_ok (n := n) q1 (m := 15) (by omega)
    obtain ⟨d, p3, e3, a3, q3⟩ := below_ok (n := n) q2 (m := 10) (by omega)
    have hrow : Row (k + 1) (s.2.2 ++ [s.1]) := by
      refine ⟨by rw [List.length_append, List.length_singleton, i3], fun y hy => ?_⟩
      rcases List.mem_append.1 hy with h | h
      · exact i4 y h
      · rw [List.mem_singleton.1 h]; exact i1
    have hw1 : w64 (s.1 + a) = s.1 + a := w64_id (by omega) (by omega)
    have hlen : (s.2.2 ++ [s.1]).length * 8 ≤ 140737488355328 := by rw [hrow.1]; omega
    show ∃ s', _ ∧ spec_l1DrawHull_L12 n kx2 _ n9 (w : Int) s25 s.1 (k : Int) s.2.1 t29 t30 c31 h32 h33 c34 s.2.2 = _
    unfold spec_l1DrawHull_L12 spec_l1DrawHull_k0
    rw [decide_eq_true (show (k : Int) < (w : Int) by omega), cond_true, chk_dec hlen, e1, Option.bind_some]
    dsimp only
    rw [e2, Option.bind_some]
    dsimp only
    rw [w64_succ (show k < 9223372036854775807 by omega), hw1]
    cases b with
    | true =>
      rw [cond_true, e3, Option.bind_some]
      dsimp only
      rw [decide_eq_false (show ¬ d > 50 by omega), cond_false]
      exact ⟨(d, p3, s.2.2 ++ [s.1]), ⟨by show 0 ≤ d ∧ d ≤ 50; omega, q3, hrow⟩, rfl⟩
    | false =>
      rw [cond_false]
      by_cases c1 : s.1 + a > 50
      · rw [decide_eq_true c1, cond_true]
        exact ⟨(50, p2, s.2.2 ++ [s.1]), ⟨by show (0 : Int) ≤ 50 ∧ (50 : Int) ≤ 50; omega, q2, hrow⟩, rfl⟩
      · rw [decide_eq_false c1, cond_false]
        exact ⟨(s.1 + a, p2, s.2.2 ++ [s.1]), ⟨by show 0 ≤ s.1 + a ∧ s.1 + a ≤ 50; omega, q2, hrow⟩, rfl⟩
  · obtain ⟨i1, i2, i3⟩ := hI
    refine ⟨s.2.1, s.2.2, i2, i3, ?_⟩
    show spec_l1DrawHull_L12 n kx2 _ n9 (w : Int) s25 s.1 (w : Int) s.2.1 t29 t30 c31 h32 h33 c34 s.2.2 = _
    unfold spec_l1DrawHull_L12
    simp only [Int.lt_irrefl, decide_false, cond_false]
structure GoodR (m w : Nat) (l : List (List Int)) : Prop where
  len : l.length = m
  rows : ∀ r ∈ l, Row w r
theorem rows_ok {R : Type} {n : Nat} (kx0 : List (List Int) → Sl1Cur → Option R) (m w : Nat) (hm : m ≤ 12) (hw : w ≤ 10) (t13 t14 h16 h17 : Int) (c15 : List (List Int)) {p : Sl1Cur} (hp : CurOk p) (hn : 1000000000 < n) :
    ∃ c p', CurOk p' ∧ GoodR m w c ∧ loopN (fun (x : Int × Sl1Cur × List (List Int)) J' => spec_l1DrawHull_L7 n kx0 (fun s85 p86 c87 => J' (s85, p86, c87)) (m : Int) (w : Int) x.1 x.2.1 t13 t14 c15 h16 h17 x.2.2) n ((0 : Int), p, []) = kx0 c p' := by
  refine loop_runS (S := Sl1Cur × List (List Int)) (X := Int × Sl1Cur × List (List Int)) (enc := fun k s => (k, s.1, s.2)) (len := m) (I := fun k s => CurOk s.1 ∧ GoodR k w s.2)
    (Q := fun r => ∃ c p', CurOk p' ∧ GoodR m w c ∧ r = kx0 c p') (fun k s J hk hI => ?_) (fun s J hI => ?_) (by omega) (s0 := (p, [])) ⟨hp, rfl, fun y hy => by cases hy⟩
  · obtain ⟨i1, i2⟩ := hI
    obtain ⟨a, p1, e1, a1, q1⟩ := below_ok (n := n) i1 (m := 8) (by omega)
    obtain ⟨p2, row, q2, hr, e2⟩ := row_ok (n := n) (fun p72 row73 => chk (decide ((s.2 ++ [row73]).length * 24 ≤ 140737488355328)) (J (((k + 1 : Nat) : Int), p72, s.2 ++ [row73]))) w hw (m : Int) (k : Int) t13 t14 h16 h17 a c15 s.2 q1 (by omega) hn
    have hg : GoodR (k + 1) w (s.2 ++ [row]) := by
      refine ⟨by rw [List.length_append, List.length_singleton, i2.len], fun y hy => ?_⟩
      rcases List.mem_append.1 hy with h | h
      · exact i2.rows y h
      · rw [List.mem_singleton.1 h]; exact hr
    refine ⟨(p2, s.2 ++ [row]), ⟨q2, hg⟩, ?_⟩
    show spec_l1DrawHull_L7 n kx0 _ (m : Int) (w : Int) (k : Int) s.1 t13 t14 c15 h16 h17 s.2 = _
    unfold spec_l1DrawHull_L7 spec_l1DrawHull_k1
    rw [decide_eq_true (show (k : Int) < (m : Int) by omega), cond_true, e1, Option.bind_some, w64_succ (show k < 9223372036854775807 by omega)]
    refine e2.trans ?_
    rw [chk_dec (by rw [hg.len]; omega)]
  · obtain ⟨i1, i2⟩ := hI
    refine ⟨s.2, s.1, i1, i2, ?_⟩
    show spec_l1DrawHull_L7 n kx0 _ (m : Int) (w : Int) (m : Int) s.1 t13 t14 c15 h16 h17 s.2 = _
    unfold spec_l1DrawHull_L7
    simp only [Int.lt_irrefl, decide_false, cond_false]
end Go.Sm
end

section
set_option linter.unusedSimpArgs false
set_option linter.deprecated false
set_option linter.unusedSectionVars false
set_option linter.unusedVariables false
set_option linter.unusedSimpArgs false
namespace Go.Sm
attribute [local irreducible] bd chk ix loopN
/-- A hull that a draw may give. -/
structure Drawn (h : SHull) : Prop where
  step : 1 ≤ h.Step ∧ h.Step ≤ 12
  rise : 1 ≤ h.Rise ∧ h.Rise ≤ 5
  len : 2 ≤ h.Half.length ∧ h.Half.length ≤ 12
  wide : ∃ w, (2 ≤ w ∧ w ≤ 10) ∧ ∀ r ∈ h.Half, Row w r
theorem new_ok {n : Nat} (code : List Int) (hc : code.length ≤ 1048576) (hn : 1000000000 < n) : ∃ c, spec_l1New n code = some c ∧ CurOk c := by
  have hw : w64 ((59059 : Int) + (code.length : Int)) = 59059 + (code.length : Int) := w64_id (by omega) (by omega)
  unfold spec_l1New
  rw [bd_eq]
  have key : ∀ m k h fu, k + m = code.length → m < fu → ∃ c, loopN (fun (x : Int × Int) J' => spec_l1New_L3 n (fun h16 => some ((⟨code, (0 : Int), h16⟩ : Sl1Cur))) (fun h17 i18 => J' (h17, i18)) code x.1 x.2) fu (h, (k : Int)) = some c ∧ CurOk c := by
    intro m
    induction m with
    | zero =>
      intro k h fu hk hfu
      obtain ⟨f, rfl⟩ : ∃ f, fu = f + 1 := ⟨fu - 1, by omega⟩
      rw [loopN_succ]
      refine ⟨⟨code, 0, h⟩, ?_, ⟨by show (0 : Int) ≤ 0 ∧ (0 : Int) ≤ (code.length : Int); omega, hc⟩⟩
      show spec_l1New_L3 n _ _ code h (k : Int) = _
      unfold spec_l1New_L3
      rw [decide_eq_false (by omega), cond_false]
    | succ m ih =>
      intro k h fu hk hfu
      obtain ⟨f, rfl⟩ : ∃ f, fu = f + 1 := ⟨fu - 1, by omega⟩
      rw [loopN_succ]
      have hstep : ∀ J : Int → Int → Option Sl1Cur, ∃ h', spec_l1New_L3 n (fun h16 => some ((⟨code, (0 : Int), h16⟩ : Sl1Cur))) J code h (k : Int) = J h' ((k + 1 : Nat) : Int) ∨ spec_l1New_L3 n (fun h16 => some ((⟨code, (0 : Int), h16⟩ : Sl1Cur))) J code h (k : Int) = some ⟨code, 0, h⟩ := by
        intro J
        unfold spec_l1New_L3 spec_l1New_k0
        rw [decide_eq_true (show (k : Int) < (code.length : Int) by omega), cond_true]
        cases decide ((k : Int) < 4000) with
        | true =>
          rw [cond_true, ix_nat (by omega), bd_eq, bd_eq, w64_succ (show k < 9223372036854775807 by omega)]
          exact ⟨_, .inl rfl⟩
        | false => exact ⟨0, .inr rfl⟩
      obtain ⟨h', e | e⟩ := hstep (fun h17 i18 => loopN (fun (x : Int × Int) J' => spec_l1New_L3 n (fun h16 => some ((⟨code, (0 : Int), h16⟩ : Sl1Cur))) (fun h17 i18 => J' (h17, i18)) code x.1 x.2) f (h17, i18))
      · obtain ⟨c, g1, g2⟩ := ih (k + 1) h' f (by omega) (by omega)
        exact ⟨c, e.trans g1, g2⟩
      · exact ⟨⟨code, 0, h⟩, e, ⟨by show (0 : Int) ≤ 0 ∧ (0 : Int) ≤ (code.length : Int); omega, hc⟩⟩
  exact key code.length 0 _ n (by omega) (by omega)
theorem hull_ok {n : Nat} {c : Sl1Cur} (hc : CurOk c) (hn : 1000000000 < n) : ∃ h c', spec_l1DrawHull n c = some (h, c') ∧ Drawn h ∧ CurOk c' := by
  obtain ⟨v1, c1, e1, a1, q1⟩ := below_ok (n := n) hc (m := 12) (by omega)
  obtain ⟨v2, c2, e2, a2, q2⟩ := below_ok (n := n) q1 (m := 5) (by omega)
  obtain ⟨v3, c3, e3, a3, q3⟩ := below_ok (n := n) q2 (m := 6) (by omega)
  obtain ⟨v4, c4, e4, a4, q4⟩ := below_ok (n := n) q3 (m := 6) (by omega)
  obtain ⟨v5, c5, e5, q5⟩ := once_ok (n := n) q4 (m := 20) (by omega)
  have w1 : w64 ((1 : Int) + v1) = 1 + v1 := w64_id (by omega) (by omega)
  have w2 : w64 ((1 : Int) + v2) = 1 + v2 := w64_id (by omega) (by omega)
  have w3 : w64 ((2 : Int) + v3) = ((2 + v3).toNat : Int) := by rw [w64_id (by omega) (by omega)]; omega
  have w4 : w64 ((2 : Int) + v4) = ((2 + v4).toNat : Int) := by rw [w64_id (by omega) (by omega)]; omega
  unfold spec_l1DrawHull
  rw [e1, Option.bind_some]
  dsimp only
  rw [e2, Option.bind_some]
  dsimp only
  rw [e3, Option.bind_some]
  dsimp only
  rw [e4, Option.bind_some]
  dsimp only
  rw [e5, Option.bind_some]
  dsimp only
  rw [w1, w2, w3, w4]
  cases v5 with
  | true =>
    rw [cond_true]
    obtain ⟨l, c', g1, g2, g3⟩ := rows_ok (n := n) (fun c83 p84 => some ((⟨1 + v1, 1 + v2, c83⟩ : SHull), p84)) 12 10 (by omega) (by omega) 0 0 (1 + v1) (1 + v2) [] q5 hn
    refine ⟨⟨1 + v1, 1 + v2, l⟩, c', g3, ⟨by show 1 ≤ 1 + v1 ∧ 1 + v1 ≤ 12; omega, by show 1 ≤ 1 + v2 ∧ 1 + v2 ≤ 5; omega, ?_, 10, by omega, g2.rows⟩, g1⟩
    show 2 ≤ l.length ∧ l.length ≤ 12
    rw [g2.len]
    omega
  | false =>
    rw [cond_false]
    obtain ⟨l, c', g1, g2, g3⟩ := rows_ok (n := n) (fun c83 p84 => some ((⟨1 + v1, 1 + v2, c83⟩ : SHull), p84)) (2 + v3).toNat (2 + v4).toNat (by omega) (by omega) 0 0 (1 + v1) (1 + v2) [] q5 hn
    refine ⟨⟨1 + v1, 1 + v2, l⟩, c', g3, ⟨by show 1 ≤ 1 + v1 ∧ 1 + v1 ≤ 12; omega, by show 1 ≤ 1 + v2 ∧ 1 + v2 ≤ 5; omega, ?_, (2 + v4).toNat, by omega, g2.rows⟩, g1⟩
    show 2 ≤ l.length ∧ l.length ≤ 12
    rw [g2.len]
    omega
theorem draw_ok {n : Nat} (code : List Int) (hc : code.length ≤ 1048576) (hn : 1000000000 < n) : ∃ h w, spec_DrawRightHull n code = some (h, w) ∧ Drawn h ∧ 0 ≤ w ∧ w < ((h.Half.getD 0 []).length : Int) := by
  obtain ⟨c, e1, q1⟩ := new_ok (n := n) code hc hn
  obtain ⟨h, c', e2, d, q2⟩ := hull_ok (n := n) q1 hn
  obtain ⟨w, hw, hr⟩ := d.wide
  have hl := d.len
  have h0 := hr (h.Half.getD 0 []) (getD_mem (by omega))
  obtain ⟨v, c2, e3, a3, q3⟩ := below_ok (n := n) q2 (m := ((h.Half.getD 0 []).length : Int)) (by rw [h0.1]; omega)
  unfold spec_DrawRightHull
  rw [e1, Option.bind_some, e2, Option.bind_some]
  dsimp only
  rw [ix_of (by omega) (by omega), chk_dec (by omega), chk_dec (by omega), e3, Option.bind_some]
  exact ⟨h, v, rfl, d, a3.1, a3.2⟩
end Go.Sm
end

section
set_option linter.unusedSimpArgs false
set_option linter.deprecated false
set_option linter.unusedSectionVars false
set_option linter.unusedVariables false
set_option linter.unusedSimpArgs false
namespace Go.Sm
attribute [local irreducible] bd chk ix loopN
/-! ### Fractions -/
/-- Euclid's steps give the common divisor. -/
theorem gcd_loop {n : Nat} : ∀ (m : Nat) (a b : Nat) (fu : Nat), b ≤ m → m + 1 < fu → loopN (fun (x : Int × Int) J' => impl_gcd_L2 n (fun a7 => some (a7)) (fun a8 b9 => J' (a8, b9)) x.1 x.2) fu ((a : Int), (b : Int)) = some ((Nat.gcd a b : Nat) : Int) := by
  intro m
  induction m with
  | zero =>
    intro a b fu hb hfu
    obtain ⟨f, rfl⟩ : ∃ f, fu = f + 1 := ⟨fu - 1, by omega⟩
    have : b = 0 := by omega
    subst this
    rw [loopN_succ]
    show impl_gcd_L2 n _ _ (a : Int) ((0 : Nat) : Int) = _
    unfold impl_gcd_L2
    rw [decide_eq_true (show ((0 : Nat) : Int) = 0 from rfl), Nat.gcd_zero_right]
    rfl
  | succ m ih =>
    intro a b fu hb hfu
    obtain ⟨f, rfl⟩ : ∃ f, fu = f + 1 := ⟨fu - 1, by omega⟩
    rw [loopN_succ]
    show impl_gcd_L2 n _ _ (a : Int) (b : Int) = _
    by_cases e : b = 0
    · subst e
      unfold impl_gcd_L2
      rw [decide_eq_true (show ((0 : Nat) : Int) = 0 from rfl), Nat.gcd_zero_right]
      rfl
    · have hlt : a % b < b := Nat.mod_lt _ (by omega)
      have hm : Int.tmod (a : Int) (b : Int) = ((a % b : Nat) : Int) := rfl
      unfold impl_gcd_L2
      rw [decide_eq_false (show ¬ (b : Int) = 0 by omega), Bool.not_false, cond_true, cond_false, hm]
      have h := ih b (a % b) f (by omega) (by omega)
      rw [Nat.gcd_comm b (a % b), ← Nat.gcd_rec, Nat.gcd_comm] at h
      exact h
theorem gcd_ok {n : Nat} (a b : Int) (ha : -1000000000000000 ≤ a ∧ a ≤ 1000000000000000) (hb : 0 ≤ b ∧ b ≤ 900000000) (hn : 1000000000 < n) : impl_gcd n a b = some ((Nat.gcd a.natAbs b.natAbs : Nat) : Int) := by
  have hsz : ∀ x : Int, -1000000000000000 ≤ x ∧ x ≤ 1000000000000000 → impl_size n x = some (x.natAbs : Int) := by
    intro x hx
    unfold impl_size
    by_cases c : x < 0
    · rw [decide_eq_true c, cond_true, w64_id (by omega) (by omega)]
      congr 1
      omega
    · rw [decide_eq_false c, cond_false]
      congr 1
      omega
  unfold impl_gcd
  rw [hsz a ha, hsz b (by omega), Option.bind_some, Option.bind_some]
  exact gcd_loop b.natAbs a.natAbs b.natAbs n (Nat.le_refl _) (by omega)
/-- A fraction over d in lowest terms: its parts, and what they come to. -/
theorem frac_ok {n : Nat} (a d : Int) (ha : -1000000000000000 ≤ a ∧ a ≤ 1000000000000000) (hd : 1 ≤ d ∧ d ≤ 900000000) (hn : 1000000000 < n) :
    ∃ x y g : Int, impl_fracOf n a d = some ⟨x, y⟩ ∧ 0 < g ∧ a = x * g ∧ d = y * g ∧ 0 < y ∧ y ≤ d ∧ -1000000000000000 ≤ x ∧ x ≤ 1000000000000000 := by
  have hgp : 0 < Nat.gcd a.natAbs d.natAbs := Nat.gcd_pos_of_pos_right _ (by omega)
  obtain ⟨g, hg⟩ : ∃ g : Int, g = ((Nat.gcd a.natAbs d.natAbs : Nat) : Int) := ⟨_, rfl⟩
  have hg0 : 0 < g := by omega
  have da : g ∣ a := by
    rw [hg]
    exact Int.ofNat_dvd_left.2 (Nat.gcd_dvd_left _ _)
  have dd : g ∣ d := by
    rw [hg]
    exact Int.ofNat_dvd_left.2 (Nat.gcd_dvd_right _ _)
  obtain ⟨x, hx⟩ := da
  obtain ⟨y, hy⟩ := dd
  have e1 : Int.tdiv a g = x := by rw [hx]; exact Int.mul_tdiv_cancel_left _ (by omega)
  have e2 : Int.tdiv d g = y := by rw [hy]; exact Int.mul_tdiv_cancel_left _ (by omega)
  have hy0 : 0 < y := by
    by_cases c : 0 < y
    · exact c
    · exfalso
      have : g * y ≤ g * 0 := Int.mul_le_mul_of_nonneg_left (by omega) (by omega)
      omega
  have hyd : y ≤ d := by
    have : 1 * y ≤ g * y := Int.mul_le_mul_of_nonneg_right (by omega) (by omega)
    omega
  have hxb : -1000000000000000 ≤ x ∧ x ≤ 1000000000000000 := by
    rcases Int.le_total 0 x with c | c
    · have : 1 * x ≤ g * x := Int.mul_le_mul_of_nonneg_right (by omega) c
      omega
    · have : 1 * (-x) ≤ g * (-x) := Int.mul_le_mul_of_nonneg_right (by omega) (by omega)
      have e3 := Int.mul_neg g x
      omega
  refine ⟨x, y, g, ?_, hg0, by rw [hx, Int.mul_comm], by rw [hy, Int.mul_comm], hy0, hyd, hxb.1, hxb.2⟩
  unfold impl_fracOf
  rw [gcd_ok a d ha (by omega) hn, ← hg, Option.bind_some, decide_eq_false (show ¬ g = 0 by omega), cond_false, cond_false, e1, e2, w64_id (x := x) (by omega) (by omega), w64_id (by omega) (by omega)]
end Go.Sm
end

section
set_option linter.unusedSimpArgs false
set_option linter.deprecated false
set_option linter.unusedSectionVars false
set_option linter.unusedVariables false
set_option linter.unusedSimpArgs false
namespace Go.Sm
attribute [local irreducible] bd chk ix loopN
/-- The whole part below a fraction, as the law takes it. -/
def fdn (x y : Int) : Int := if Int.tmod x y < 0 then Int.tdiv x y - 1 else Int.tdiv x y
structure FrOk (x y : Int) : Prop where
  x : -1000000000000000 ≤ x ∧ x ≤ 1000000000000000
  y : 1 ≤ y ∧ y ≤ 900000000
theorem tdiv_rng {x y : Int} (h : FrOk x y) : -1000000000000000 ≤ Int.tdiv x y ∧ Int.tdiv x y ≤ 1000000000000000 := by
  have h1 := h.x
  have h2 := h.y
  rcases Int.le_total 0 x with c | c
  · have q1 := Int.tdiv_nonneg (a := x) (b := y) c (by omega)
    have q2 := Int.tdiv_le_self (a := x) y c
    omega
  · have e : Int.tdiv x y = -Int.tdiv (-x) y := by rw [Int.neg_tdiv, Int.neg_neg]
    have q1 := Int.tdiv_nonneg (a := -x) (b := y) (by omega) (by omega)
    have q2 := Int.tdiv_le_self (a := -x) y (by omega)
    omega
theorem tmod_rng {x y : Int} (h : FrOk x y) : -y < Int.tmod x y ∧ Int.tmod x y < y := by
  have h2 := h.y
  refine ⟨?_, Int.tmod_lt_of_pos _ (by omega)⟩
  have e : Int.tmod x y = -Int.tmod (-x) y := by rw [Int.neg_tmod, Int.neg_neg]
  have := Int.tmod_lt_of_pos (-x) (b := y) (by omega)
  omega
theorem fdn_rng {x y : Int} (h : FrOk x y) : 0 ≤ x - fdn x y * y ∧ x - fdn x y * y < y ∧ -1000000000000001 ≤ fdn x y ∧ fdn x y ≤ 1000000000000000 := by
  have h1 := h.y
  have q := tdiv_rng h
  have r := tmod_rng h
  have e : y * Int.tdiv x y + Int.tmod x y = x := Int.mul_tdiv_add_tmod _ _
  rw [Int.mul_comm] at e
  unfold fdn
  split
  · rw [Int.sub_mul, Int.one_mul]
    omega
  · omega
theorem less_ok {n : Nat} {x1 y1 x2 y2 : Int} (h1 : FrOk x1 y1) (h2 : FrOk x2 y2) : laws_less n ⟨x1, y1⟩ ⟨x2, y2⟩ = some (bif !decide (fdn x1 y1 = fdn x2 y2) then decide (fdn x1 y1 < fdn x2 y2) else decide ((x1 - fdn x1 y1 * y1) * y2 < (x2 - fdn x2 y2 * y2) * y1)) := by
  obtain ⟨a1, a2, a3, a4⟩ := fdn_rng h1
  obtain ⟨b1, b2, b3, b4⟩ := fdn_rng h2
  have hy1 := h1.y
  have hy2 := h2.y
  have hx1 := h1.x
  have hx2 := h2.x
  have t1 := tdiv_rng h1
  have t2 := tdiv_rng h2
  have m1 : 0 ≤ (x1 - fdn x1 y1 * y1) * y2 := Int.mul_nonneg a1 (by omega)
  have m2 : (x1 - fdn x1 y1 * y1) * y2 ≤ 900000000 * 900000000 := Int.mul_le_mul (by omega) (by omega) (by omega) (by omega)
  have m3 : 0 ≤ (x2 - fdn x2 y2 * y2) * y1 := Int.mul_nonneg b1 (by omega)
  have m4 : (x2 - fdn x2 y2 * y2) * y1 ≤ 900000000 * 900000000 := Int.mul_le_mul (by omega) (by omega) (by omega) (by omega)
  have w1 : w64 (fdn x1 y1 * y1) = fdn x1 y1 * y1 := w64_id (by omega) (by omega)
  have w2 : w64 (fdn x2 y2 * y2) = fdn x2 y2 * y2 := w64_id (by omega) (by omega)
  have w3 : w64 (x1 - fdn x1 y1 * y1) = x1 - fdn x1 y1 * y1 := w64_id (by omega) (by omega)
  have w4 : w64 (x2 - fdn x2 y2 * y2) = x2 - fdn x2 y2 * y2 := w64_id (by omega) (by omega)
  have w5 : w64 ((x1 - fdn x1 y1 * y1) * y2) = (x1 - fdn x1 y1 * y1) * y2 := w64_id (by omega) (by omega)
  have w6 : w64 ((x2 - fdn x2 y2 * y2) * y1) = (x2 - fdn x2 y2 * y2) * y1 := w64_id (by omega) (by omega)
  have hk : ∀ p q : Int, p = fdn x1 y1 → q = Int.tdiv x2 y2 → laws_less_k0 n p q ⟨x1, y1⟩ ⟨x2, y2⟩ = some (bif !decide (fdn x1 y1 = fdn x2 y2) then decide (fdn x1 y1 < fdn x2 y2) else decide ((x1 - fdn x1 y1 * y1) * y2 < (x2 - fdn x2 y2 * y2) * y1)) := by
    rintro p q rfl rfl
    unfold laws_less_k0
    dsimp only
    rw [decide_eq_false (show ¬ y2 = 0 by omega), cond_false]
    by_cases c : Int.tmod x2 y2 < 0
    · have e : fdn x2 y2 = Int.tdiv x2 y2 - 1 := by unfold fdn; rw [if_pos c]
      have ew : w64 (Int.tdiv x2 y2 - 1) = fdn x2 y2 := by rw [e]; exact w64_id (by omega) (by omega)
      rw [decide_eq_true c, cond_true, ew]
      simp only [bd_eq, w1, w2, w3, w4, w5, w6]
      cases decide (fdn x1 y1 = fdn x2 y2) <;> rfl
    · have e : fdn x2 y2 = Int.tdiv x2 y2 := by unfold fdn; rw [if_neg c]
      rw [decide_eq_false c, cond_false, ← e]
      simp only [bd_eq, w1, w2, w3, w4, w5, w6]
      cases decide (fdn x1 y1 = fdn x2 y2) <;> rfl
  unfold laws_less
  dsimp only
  rw [decide_eq_false (show ¬ y1 = 0 by omega), decide_eq_false (show ¬ y2 = 0 by omega)]
  simp only [cond_false, bd_eq]
  have e1 : w64 (Int.tdiv x1 y1) = Int.tdiv x1 y1 := w64_id (by omega) (by omega)
  have e2 : w64 (Int.tdiv x2 y2) = Int.tdiv x2 y2 := w64_id (by omega) (by omega)
  rw [e1, e2]
  by_cases c : Int.tmod x1 y1 < 0
  · have e : fdn x1 y1 = Int.tdiv x1 y1 - 1 := by unfold fdn; rw [if_pos c]
    rw [decide_eq_true c, cond_true]
    exact hk _ _ (by rw [e]; exact w64_id (by omega) (by omega)) rfl
  · have e : fdn x1 y1 = Int.tdiv x1 y1 := by unfold fdn; rw [if_neg c]
    rw [decide_eq_false c, cond_false]
    exact hk _ _ e.symm rfl
/-- What is not less is told so. -/
theorem not_less {n : Nat} {x1 y1 x2 y2 : Int} (h1 : FrOk x1 y1) (h2 : FrOk x2 y2) (h : x2 * y1 ≤ x1 * y2) : laws_less n ⟨x1, y1⟩ ⟨x2, y2⟩ = some false := by
  obtain ⟨a1, a2, a3, a4⟩ := fdn_rng h1
  obtain ⟨b1, b2, b3, b4⟩ := fdn_rng h2
  have hy1 := h1.y
  have hy2 := h2.y
  rw [less_ok h1 h2]
  congr 1
  -- x1 y2 = p y1 y2 + r1 y2, x2 y1 = q y2 y1 + r2 y1
  have e1 : x1 * y2 = fdn x1 y1 * (y1 * y2) + (x1 - fdn x1 y1 * y1) * y2 := by rw [Int.sub_mul, ← Int.mul_assoc]; omega
  have e2 : x2 * y1 = fdn x2 y2 * (y1 * y2) + (x2 - fdn x2 y2 * y2) * y1 := by rw [Int.sub_mul, Int.mul_comm y1 y2, ← Int.mul_assoc]; omega
  have pos : 0 < y1 * y2 := Int.mul_pos (by omega) (by omega)
  have r1 : (x1 - fdn x1 y1 * y1) * y2 < y1 * y2 := Int.mul_lt_mul_of_pos_right a2 (by omega)
  have r2 : 0 ≤ (x2 - fdn x2 y2 * y2) * y1 := Int.mul_nonneg b1 (by omega)
  by_cases c : fdn x1 y1 = fdn x2 y2
  · rw [decide_eq_true c, Bool.not_true, cond_false]
    rw [c] at e1
    refine decide_eq_false ?_
    rw [c]
    omega
  · rw [decide_eq_false c, Bool.not_false, cond_true]
    refine decide_eq_false fun hlt => ?_
    have : (fdn x1 y1 + 1) * (y1 * y2) ≤ fdn x2 y2 * (y1 * y2) := Int.mul_le_mul_of_nonneg_right (by omega) (by omega)
    rw [Int.add_mul, Int.one_mul] at this
    omega
end Go.Sm
end

section
set_option linter.unusedSimpArgs false
set_option linter.deprecated false
set_option linter.unusedSectionVars false
set_option linter.unusedVariables false
set_option linter.unusedSimpArgs false
namespace Go.Sm
attribute [local irreducible] bd chk ix loopN
theorem in_spec (n : Nat) (x a b : Int) : spec_l1In n x a b = some (decide (a ≤ x ∧ x ≤ b)) := by
  unfold spec_l1In
  by_cases h0 : a ≤ x <;> by_cases h1 : x ≤ b <;> simp [h0, h1]
theorem in_impl (n : Nat) (x a b : Int) : impl_in n x a b = some (decide (a ≤ x ∧ x ≤ b)) := by
  unfold impl_in
  by_cases h0 : a ≤ x <;> by_cases h1 : x ≤ b <;> simp [h0, h1]
theorem all_true {p : Nat → Bool} {m : Nat} (h : ∀ k, k < m → p k = true) : (List.range m).all p = true := List.all_eq_true.2 fun k hk => h k (List.mem_range.1 hk)
/-- A drawn hull, its rows' width told. -/
structure Dw (h : SHull) (W : Nat) : Prop where
  step : 1 ≤ h.Step ∧ h.Step ≤ 12
  rise : 1 ≤ h.Rise ∧ h.Rise ≤ 5
  len : 2 ≤ h.Half.length ∧ h.Half.length ≤ 12
  wide : 2 ≤ W ∧ W ≤ 10
  rows : ∀ i, i < h.Half.length → (h.Half.getD i []).length = W
  cell : ∀ i k, i < h.Half.length → k < W → 0 ≤ (h.Half.getD i []).getD k 0 ∧ (h.Half.getD i []).getD k 0 ≤ 50
theorem drawn_dw {h : SHull} (d : Drawn h) : ∃ W, Dw h W := by
  obtain ⟨W, hW, hr⟩ := d.wide
  refine ⟨W, d.step, d.rise, d.len, hW, fun i hi => (hr _ (getD_mem hi)).1, fun i k hi hk => ?_⟩
  have h1 := hr _ (getD_mem (d := []) hi)
  exact h1.2 _ (getD_mem (by rw [h1.1]; exact hk))
abbrev cl (h : SHull) (i k : Nat) : Int := (h.Half.getD i []).getD k 0
theorem water_impl {n : Nat} {h : SHull} {W : Nat} (d : Dw h W) {w : Int} (hw : 0 ≤ w ∧ w < (W : Int)) (hn : 1000000000 < n) : impl_waterOk n h w = some true := by
  obtain ⟨h1, h2, h3, h4, h5, h6⟩ := d
  have ha : ∀ i, i < h.Half.length → impl_all n (h.Half.getD i []) 0 50 = some true := by
    intro i hi
    unfold impl_all slices_ContainsFunc_int_int__impl_all_1 slices_IndexFunc_int_int__impl_all_1
    have hl := h5 i hi
    rw [loop_idx (p := fun k => !decide (0 ≤ cl h i k ∧ cl h i k ≤ 50)) (len := (h.Half.getD i []).length) (by omega) (fun k J hk _ => ?_) (fun J _ => ?_) (by omega)]
    · rw [Option.bind_some, idxOf_ge, Option.bind_some, ← List.all_eq_not_any_not, all_true fun k hk => decide_eq_true (h6 i k hi (by omega))]
    · unfold slices_IndexFunc_int_int__impl_all_1_L2 impl_all_1
      simp only [Int.ofNat_lt, hk, decide_true, cond_true, ix_nat hk, Int.toNat_natCast, in_impl, Option.bind_some, w64_succ (show k < 9223372036854775807 by omega)]
    · unfold slices_IndexFunc_int_int__impl_all_1_L2
      simp only [Int.lt_irrefl, decide_false, cond_false]
  have h50 := h5 0 (by omega)
  have hH : impl_HullOk n h = some true := by
    unfold impl_HullOk
    rw [in_impl, in_impl, in_impl, decide_eq_true (by omega), decide_eq_true (by omega), decide_eq_true (by omega)]
    simp only [Option.bind_some, Bool.not_true, cond_false]
    rw [ix_of (by omega) (by omega), in_impl, decide_eq_true (by omega), Option.bind_some, Bool.not_true, cond_false]
    rw [loop_all (p := fun _ => true) (len := h.Half.length) (no := some false) (yes := some true) (by omega) (fun k J hk _ => ?_) (fun J _ => ?_) (by omega)]
    · rw [all_true fun _ _ => rfl]; rfl
    · have hk5 := h5 k hk
      unfold impl_HullOk_L4 impl_HullOk_k0
      simp only [Int.ofNat_lt, hk, decide_true, cond_true, ix_nat hk, ix_of (Int.le_refl 0) (show (0 : Int) < (h.Half.length : Int) by omega), Int.toNat_natCast, decide_eq_true (show ((h.Half.getD k []).length : Int) = ((h.Half.getD 0 []).length : Int) by omega), ha k hk, Option.bind_some, Bool.not_true, cond_false, w64_succ (show k < 9223372036854775807 by omega)]
    · unfold impl_HullOk_L4
      simp only [Int.lt_irrefl, decide_false, cond_false]
  unfold impl_waterOk
  rw [hH, Option.bind_some, cond_true, ix_of (by omega) (by omega), bd_eq, w64_id (by omega) (by omega), in_impl, Option.bind_some, decide_eq_true (by omega)]
theorem water_spec {n : Nat} {h : SHull} {W : Nat} (d : Dw h W) {w : Int} (hw : 0 ≤ w ∧ w < (W : Int)) (hn : 1000000000 < n) : spec_l1Water n h w = some true := by
  obtain ⟨h1, h2, h3, h4, h5, h6⟩ := d
  have h50 := h5 0 (by omega)
  have hH : spec_HullOk n h = some true := by
    unfold spec_HullOk
    rw [in_spec, in_spec, in_spec, decide_eq_true (by omega), decide_eq_true (by omega), decide_eq_true (by omega)]
    simp only [Option.bind_some, Bool.not_true, cond_false]
    rw [loop_all (p := fun _ => true) (len := h.Half.length) (no := some false) (yes := some true) (by omega) (fun k J hk _ => ?_) (fun J _ => ?_) (by omega)]
    · rw [all_true fun _ _ => rfl]; rfl
    · have hk5 := h5 k hk
      have hi : loopN (fun (x : Int) J' => spec_HullOk_L9 n (J ((k + 1 : Nat) : Int)) (fun t29 => some t29) J' (k : Int) x h) n (0 : Int) = J ((k + 1 : Nat) : Int) := by
        rw [loop_all (p := fun _ => true) (len := (h.Half.getD k []).length) (no := some false) (yes := J ((k + 1 : Nat) : Int)) (by omega) (fun t J2 ht _ => ?_) (fun J2 _ => ?_) (by omega)]
        · rw [all_true fun _ _ => rfl]; rfl
        · unfold spec_HullOk_L9
          simp only [ix_nat hk, Int.toNat_natCast, Int.ofNat_lt, ht, decide_true, cond_true, ix_nat ht, in_spec, Option.bind_some, decide_eq_true (h6 k t hk (by omega)), Bool.not_true, cond_false, w64_succ (show t < 9223372036854775807 by omega)]
        · unfold spec_HullOk_L9
          simp only [ix_nat hk, Int.toNat_natCast, Int.lt_irrefl, decide_false, cond_false]
      unfold spec_HullOk_L4 spec_HullOk_k0
      simp only [Int.ofNat_lt, hk, decide_true, cond_true, ix_nat hk, ix_of (Int.le_refl 0) (show (0 : Int) < (h.Half.length : Int) by omega), Int.toNat_natCast, decide_eq_true (show ((h.Half.getD k []).length : Int) = ((h.Half.getD 0 []).length : Int) by omega), in_spec, decide_eq_true (show 2 ≤ ((h.Half.getD k []).length : Int) ∧ ((h.Half.getD k []).length : Int) ≤ 10 by omega), Option.bind_some, Bool.not_true, cond_false, w64_succ (show k < 9223372036854775807 by omega), hi]
    · unfold spec_HullOk_L4
      simp only [Int.lt_irrefl, decide_false, cond_false]
  unfold spec_l1Water
  rw [hH, Option.bind_some, cond_true, ix_of (by omega) (by omega), bd_eq, w64_id (by omega) (by omega), in_spec, Option.bind_some, decide_eq_true (by omega)]
/-! ### Volumes -/
def four (h : SHull) (i k : Nat) : Int := cl h i k + cl h (i + 1) k + cl h i (k + 1) + cl h (i + 1) (k + 1)
def sumK (h : SHull) (i : Nat) : Nat → Int
  | 0 => 0
  | k + 1 => sumK h i k + four h i k
def stripI (h : SHull) (w i : Nat) : Int := h.Rise * h.Step * sumK h i w
theorem four_rng {h : SHull} {W : Nat} (d : Dw h W) {i k : Nat} (hi : i + 1 < h.Half.length) (hk : k + 1 < W) : 0 ≤ four h i k ∧ four h i k ≤ 200 := by
  have a1 := d.cell i k (by omega) (by omega)
  have a2 := d.cell (i + 1) k hi (by omega)
  have a3 := d.cell i (k + 1) (by omega) hk
  have a4 := d.cell (i + 1) (k + 1) hi hk
  unfold four cl
  omega
theorem sumK_rng {h : SHull} {W : Nat} (d : Dw h W) {i : Nat} (hi : i + 1 < h.Half.length) : ∀ k, k < W → 0 ≤ sumK h i k ∧ sumK h i k ≤ 200 * (k : Int)
  | 0, _ => ⟨Int.le_refl _, by show (0 : Int) ≤ 200 * 0; omega⟩
  | k + 1, hk => by
    have ih := sumK_rng d hi k (by omega)
    have hf := four_rng d hi hk
    show 0 ≤ sumK h i k + four h i k ∧ sumK h i k + four h i k ≤ _
    omega
theorem rs_rng {h : SHull} {W : Nat} (d : Dw h W) : 1 ≤ h.Rise * h.Step ∧ h.Rise * h.Step ≤ 60 := by
  have h1 := d.step
  have h2 := d.rise
  have q1 : 1 * 1 ≤ h.Rise * h.Step := Int.mul_le_mul h2.1 h1.1 (by omega) (by omega)
  have q2 : h.Rise * h.Step ≤ 5 * 12 := Int.mul_le_mul h2.2 h1.2 (by omega) (by omega)
  omega
theorem prod_rng {h : SHull} {W : Nat} (d : Dw h W) {x : Int} {m : Int} (hx : 0 ≤ x ∧ x ≤ m) : 0 ≤ h.Rise * h.Step * x ∧ h.Rise * h.Step * x ≤ 60 * m := by
  have := rs_rng d
  exact ⟨Int.mul_nonneg (by omega) hx.1, Int.mul_le_mul this.2 hx.2 hx.1 (by omega)⟩
theorem strip_rng {h : SHull} {W : Nat} (d : Dw h W) {i w : Nat} (hi : i + 1 < h.Half.length) (hw : w < W) : 0 ≤ stripI h w i ∧ stripI h w i ≤ 120000 := by
  have h1 := sumK_rng d hi w hw
  have h2 := d.wide
  have := prod_rng d (x := sumK h i w) (m := 2000) (by omega)
  unfold stripI
  omega
def strips (h : SHull) (w k : Nat) : List Int := (List.range k).map (stripI h w)
theorem strips_spec {n : Nat} {h : SHull} {W : Nat} (d : Dw h W) {w : Nat} (hw : w < W) (hn : 1000000000 < n) : spec_Strips2 n h (w : Int) = some (strips h w (h.Half.length - 1)) := by
  have hl := d.len
  have hW := d.wide
  unfold spec_Strips2
  rw [water_spec d (w := (w : Int)) (by omega) hn, Option.bind_some, Bool.not_true, cond_false]
  refine loop_runS (S := List Int) (X := Int × List Int) (enc := fun k s => (k, s)) (len := h.Half.length - 1) (I := fun k s => s = strips h w k) (Q := fun r => r = some (strips h w (h.Half.length - 1))) (fun i s J hi hI => ?_) (fun s J hI => ?_) (by omega) (s0 := []) rfl
  · refine ⟨strips h w (i + 1), rfl, ?_⟩
    have hsl : s.length = i := by rw [hI]; simp [strips]
    have hi1 : i + 1 < h.Half.length := by omega
    show spec_Strips2_L5 n _ _ (w : Int) (i : Int) h s = _
    unfold spec_Strips2_L5 spec_Strips2_k1
    rw [w64_succ (show i < 9223372036854775807 by omega), decide_eq_true (show ((i + 1 : Nat) : Int) < (h.Half.length : Int) by omega), cond_true]
    refine loop_runS (S := Int) (X := Int × Int) (enc := fun k s => (s, k)) (len := w) (I := fun k x => x = sumK h i k) (Q := fun r => r = J (((i + 1 : Nat) : Int), strips h w (i + 1))) (fun k x J2 hk hx => ?_) (fun x J2 hx => ?_) (by omega) (s0 := 0) rfl
    · refine ⟨sumK h i (k + 1), rfl, ?_⟩
      have q := sumK_rng d hi1 k (by omega)
      have a1 := d.cell i k (by omega) (by omega)
      have a2 := d.cell (i + 1) k hi1 (by omega)
      have a3 := d.cell i (k + 1) (by omega) (by omega)
      have a4 := d.cell (i + 1) (k + 1) hi1 (by omega)
      have r1 := d.rows i (by omega)
      have r2 := d.rows (i + 1) hi1
      show spec_Strips2_L9 n _ _ (w : Int) (i : Int) x (k : Int) h s = _
      unfold spec_Strips2_L9 spec_Strips2_k0
      subst hx
      simp only [Int.ofNat_lt, hk, decide_true, cond_true, w64_succ (show i < 9223372036854775807 by omega), w64_succ (show k < 9223372036854775807 by omega), Int.toNat_natCast, ix_nat (show i < h.Half.length by omega), ix_nat hi1, ix_nat (show k < (h.Half.getD i []).length by omega), ix_nat (show k < (h.Half.getD (i + 1) []).length by omega), ix_nat (show k + 1 < (h.Half.getD i []).length by omega), ix_nat (show k + 1 < (h.Half.getD (i + 1) []).length by omega), bd_eq]
      rw [w64_id (x := sumK h i k + (h.Half.getD i []).getD k 0) (by omega) (by omega), w64_id (x := sumK h i k + (h.Half.getD i []).getD k 0 + (h.Half.getD (i + 1) []).getD k 0) (by omega) (by omega), w64_id (x := sumK h i k + (h.Half.getD i []).getD k 0 + (h.Half.getD (i + 1) []).getD k 0 + (h.Half.getD i []).getD (k + 1) 0) (by omega) (by omega), w64_id (by omega) (by omega)]
      have e : sumK h i k + (h.Half.getD i []).getD k 0 + (h.Half.getD (i + 1) []).getD k 0 + (h.Half.getD i []).getD (k + 1) 0 + (h.Half.getD (i + 1) []).getD (k + 1) 0 = sumK h i (k + 1) := by
        show _ = sumK h i k + four h i k
        unfold four cl
        omega
      rw [e]
    · have rs := rs_rng d
      have hst := strip_rng d hi1 hw
      subst hx
      show spec_Strips2_L9 n _ _ (w : Int) (i : Int) (sumK h i w) (w : Int) h s = _
      unfold spec_Strips2_L9
      simp only [Int.lt_irrefl, decide_false, cond_false, bd_eq]
      have e : w64 (w64 (h.Rise * h.Step) * sumK h i w) = stripI h w i := by
        rw [w64_id (x := h.Rise * h.Step) (by omega) (by omega)]
        exact w64_id (by have : h.Rise * h.Step * sumK h i w = stripI h w i := rfl; omega) (by have : h.Rise * h.Step * sumK h i w = stripI h w i := rfl; omega)
      rw [e, chk_dec (by rw [List.length_append, List.length_singleton]; omega), hI]
      unfold strips
      rw [List.range_succ, List.map_append]
      rfl
  · show spec_Strips2_L5 n _ _ (w : Int) ((h.Half.length - 1 : Nat) : Int) h s = _
    unfold spec_Strips2_L5
    rw [w64_succ (by omega), decide_eq_false (by omega), cond_false, hI]
end Go.Sm
end

section
set_option linter.unusedSimpArgs false
set_option linter.deprecated false
set_option linter.unusedSectionVars false
set_option linter.unusedVariables false
set_option linter.unusedSimpArgs false
namespace Go.Sm
attribute [local irreducible] bd chk ix loopN
theorem strips_len (h : SHull) (w k : Nat) : (strips h w k).length = k := by simp [strips]
theorem strips_get (h : SHull) (w : Nat) {k i : Nat} (hi : i < k) : (strips h w k).getD i 0 = stripI h w i := by
  rw [getD_eq (by rw [strips_len]; exact hi)]
  simp [strips]
theorem strips_impl {n : Nat} {h : SHull} {W : Nat} (d : Dw h W) {w : Nat} (hw : w < W) (hn : 1000000000 < n) : impl_Strips2 n h (w : Int) = some (strips h w (h.Half.length - 1)) := by
  have hl := d.len
  have hW := d.wide
  have hm : w64 ((h.Half.length : Int) - 1) = ((h.Half.length - 1 : Nat) : Int) := by rw [w64_id (by omega) (by omega)]; omega
  unfold impl_Strips2
  rw [water_impl d (w := (w : Int)) (by omega) hn, Option.bind_some, Bool.not_true, cond_false]
  unfold impl_Strips2_k1
  rw [bd_eq, hm, chk_dec (by omega), chk_dec (by omega), chk_dec (by omega), Int.toNat_natCast, List.length_replicate]
  refine loop_runS (S := List Int) (X := Int × List Int) (enc := fun k s => (k, s)) (len := h.Half.length - 1) (I := fun k s => s = (strips h w (h.Half.length - 1)).take k ++ (List.replicate (h.Half.length - 1) 0).drop k) (Q := fun r => r = some (strips h w (h.Half.length - 1))) (fun i s J hi hI => ?_) (fun s J hI => ?_) (by omega) (s0 := _) (by simp)
  · refine ⟨_, rfl, ?_⟩
    have hsl : s.length = h.Half.length - 1 := by rw [hI, List.length_append, List.length_take, List.length_drop, List.length_replicate, strips_len]; omega
    have hi1 : i + 1 < h.Half.length := by omega
    have hs0 : s.getD i 0 = 0 := by
      have h1 : ((strips h w (h.Half.length - 1)).take i).length = i := by rw [List.length_take, strips_len]; omega
      rw [hI, getD_eq (by rw [← hI]; omega), List.getElem_append_right (by omega)]
      simp
    have hset : ∀ x : Int, s.set i (stripI h w i) = (strips h w (h.Half.length - 1)).take (i + 1) ++ (List.replicate (h.Half.length - 1) 0).drop (i + 1) := by
      intro x
      rw [hI, take_drop_set (d := (0 : Int)) (by rw [strips_len]; exact hi) (by rw [strips_len]) (strips_get h w hi).symm]
    show impl_Strips2_L5 n _ _ (w : Int) ((h.Half.length - 1 : Nat) : Int) (i : Int) h s = _
    unfold impl_Strips2_L5
    rw [decide_eq_true (show (i : Int) < ((h.Half.length - 1 : Nat) : Int) by omega), cond_true, w64_succ (by omega), ← hset 0]
    have hq := loop_runS (R := List Int) (S := Int) (X := Int × List Int) (enc := fun k x => (k, s.set i x)) (b := fun x J' => impl_Strips2_L8 n (fun out30 => J (((i + 1 : Nat) : Int), out30)) (fun t31 out32 => J' (t31, out32)) (w : Int) (i : Int) ((h.Half.length - 1 : Nat) : Int) (i : Int) (w : Int) x.1 h x.2) (len := w) (I := fun k x => x = h.Rise * h.Step * sumK h i k) (Q := fun r => r = J (((i + 1 : Nat) : Int), s.set i (stripI h w i))) (fun k x J2 hk hx => ?_) (fun x J2 hx => ?_) (n := n) (by omega) (s0 := 0) (by show (0 : Int) = h.Rise * h.Step * 0; rw [Int.mul_zero])
    · have e0 : s.set i 0 = s := by
        rw [← hs0, getD_eq (by omega)]
        exact List.set_getElem_self _
      rw [e0] at hq
      exact hq
    · refine ⟨h.Rise * h.Step * sumK h i (k + 1), rfl, ?_⟩
      have rs := rs_rng d
      have q := sumK_rng d hi1 k (by omega)
      have q2 := sumK_rng d hi1 (k + 1) (by omega)
      have hf := four_rng d (i := i) (k := k) hi1 (by omega)
      have p1 := prod_rng d (x := sumK h i k) (m := 2000) (by omega)
      have p2 := prod_rng d (x := sumK h i (k + 1)) (m := 2000) (by omega)
      have p3 := prod_rng d (x := four h i k) (m := 200) hf
      have a1 := d.cell i k (by omega) (by omega)
      have a2 := d.cell (i + 1) k hi1 (by omega)
      have a3 := d.cell i (k + 1) (by omega) (by omega)
      have a4 := d.cell (i + 1) (k + 1) hi1 (by omega)
      have r1 := d.rows i (by omega)
      have r2 := d.rows (i + 1) hi1
      have hgl : (s.set i x).length = h.Half.length - 1 := by rw [List.length_set, hsl]
      have hgi : (s.set i x).getD i 0 = x := by simp [List.getD, show i < s.length by omega]
      show impl_Strips2_L8 n _ _ (w : Int) (i : Int) _ _ (w : Int) (k : Int) h (s.set i x) = _
      unfold impl_Strips2_L8 impl_Strips2_k0
      simp only [Int.ofNat_lt, hk, decide_true, cond_true, w64_succ (show i < 9223372036854775807 by omega), w64_succ (show k < 9223372036854775807 by omega), Int.toNat_natCast, ix_nat (show i < (s.set i x).length by omega), chk_dec (show i < (s.set i x).length by omega), ix_nat (show i < h.Half.length by omega), ix_nat hi1, ix_nat (show k < (h.Half.getD i []).length by omega), ix_nat (show k < (h.Half.getD (i + 1) []).length by omega), ix_nat (show k + 1 < (h.Half.getD i []).length by omega), ix_nat (show k + 1 < (h.Half.getD (i + 1) []).length by omega), bd_eq, hgi]
      have e4 : w64 (w64 (w64 ((h.Half.getD i []).getD k 0 + (h.Half.getD (i + 1) []).getD k 0) + (h.Half.getD i []).getD (k + 1) 0) + (h.Half.getD (i + 1) []).getD (k + 1) 0) = four h i k := by
        rw [w64_id (x := (h.Half.getD i []).getD k 0 + (h.Half.getD (i + 1) []).getD k 0) (by omega) (by omega), w64_id (x := (h.Half.getD i []).getD k 0 + (h.Half.getD (i + 1) []).getD k 0 + (h.Half.getD i []).getD (k + 1) 0) (by omega) (by omega), w64_id (by omega) (by omega)]
        rfl
      have e5 : h.Rise * h.Step * sumK h i (k + 1) = h.Rise * h.Step * sumK h i k + h.Rise * h.Step * four h i k := by
        show h.Rise * h.Step * (sumK h i k + four h i k) = _
        rw [Int.mul_add]
      rw [e4, w64_id (x := h.Rise * h.Step) (by omega) (by omega), w64_id (x := h.Rise * h.Step * four h i k) (by omega) (by omega), hx, w64_id (x := h.Rise * h.Step * sumK h i k + h.Rise * h.Step * four h i k) (by omega) (by omega), ← e5, List.set_set]
    · subst hx
      show impl_Strips2_L8 n _ _ (w : Int) (i : Int) _ _ (w : Int) (w : Int) h _ = _
      unfold impl_Strips2_L8
      simp only [Int.lt_irrefl, decide_false, cond_false]
      rfl
  · show impl_Strips2_L5 n _ _ (w : Int) ((h.Half.length - 1 : Nat) : Int) ((h.Half.length - 1 : Nat) : Int) h s = _
    unfold impl_Strips2_L5
    simp only [Int.lt_irrefl, decide_false, cond_false]
    rw [hI, List.take_of_length_le (by rw [strips_len]; omega), List.drop_eq_nil_of_le (by rw [List.length_replicate]; omega), List.append_nil]
def totK (h : SHull) (w : Nat) : Nat → Int
  | 0 => 0
  | k + 1 => totK h w k + stripI h w k
theorem totK_rng {h : SHull} {W : Nat} (d : Dw h W) {w : Nat} (hw : w < W) : ∀ k, k + 1 ≤ h.Half.length → 0 ≤ totK h w k ∧ totK h w k ≤ 120000 * (k : Int)
  | 0, _ => ⟨Int.le_refl _, by show (0 : Int) ≤ 120000 * 0; omega⟩
  | k + 1, hk => by
    have ih := totK_rng d hw k (by omega)
    have hs := strip_rng d (i := k) (w := w) (by omega) hw
    show 0 ≤ totK h w k + stripI h w k ∧ totK h w k + stripI h w k ≤ _
    omega
def vol (h : SHull) (w : Nat) : Int := totK h w (h.Half.length - 1)
theorem vol_spec {n : Nat} {h : SHull} {W : Nat} (d : Dw h W) {w : Nat} (hw : w < W) (hn : 1000000000 < n) : spec_Volume2 n h (w : Int) = some (vol h w) := by
  have hl := d.len
  have hsl := strips_len h w (h.Half.length - 1)
  unfold spec_Volume2
  rw [strips_spec d hw hn, Option.bind_some]
  have : spec_l1Sum n (strips h w (h.Half.length - 1)) = some (vol h w) := by
    unfold spec_l1Sum
    refine loop_runS (S := Int) (X := Int × Int) (enc := fun k s => (s, k)) (len := (strips h w (h.Half.length - 1)).length) (I := fun k x => x = totK h w k) (Q := fun r => r = some (vol h w)) (fun k x J hk hx => ?_) (fun x J hx => ?_) (by omega) (s0 := 0) rfl
    · refine ⟨totK h w (k + 1), rfl, ?_⟩
      have t := totK_rng d hw (k + 1) (by omega)
      have e : totK h w (k + 1) = totK h w k + stripI h w k := rfl
      show spec_l1Sum_L3 n _ _ _ x (k : Int) = _
      unfold spec_l1Sum_L3
      simp only [Int.ofNat_lt, hk, decide_true, cond_true, ix_nat hk, Int.toNat_natCast, strips_get h w (show k < h.Half.length - 1 by omega), bd_eq, w64_succ (show k < 9223372036854775807 by omega)]
      rw [hx, ← e, w64_id (by omega) (by omega)]
    · show spec_l1Sum_L3 n _ _ _ x _ = _
      unfold spec_l1Sum_L3
      simp only [Int.lt_irrefl, decide_false, cond_false]
      rw [hx, hsl]
      rfl
  rw [this, Option.bind_some]
theorem vol_impl {n : Nat} {h : SHull} {W : Nat} (d : Dw h W) {w : Nat} (hw : w < W) (hn : 1000000000 < n) : impl_Volume2 n h (w : Int) = some (vol h w) := by
  have hl := d.len
  have hsl := strips_len h w (h.Half.length - 1)
  unfold impl_Volume2
  rw [strips_impl d hw hn, Option.bind_some]
  have : impl_sumOf n (strips h w (h.Half.length - 1)) = some (vol h w) := by
    unfold impl_sumOf
    refine loop_runS (S := Int) (X := Int × Int) (enc := fun k s => (s, k)) (len := (strips h w (h.Half.length - 1)).length) (I := fun k x => x = totK h w k) (Q := fun r => r = some (vol h w)) (fun k x J hk hx => ?_) (fun x J hx => ?_) (by omega) (s0 := 0) rfl
    · refine ⟨totK h w (k + 1), rfl, ?_⟩
      have t := totK_rng d hw (k + 1) (by omega)
      have e : totK h w (k + 1) = totK h w k + stripI h w k := rfl
      show impl_sumOf_L3 n _ _ x _ _ (k : Int) = _
      unfold impl_sumOf_L3
      simp only [Int.ofNat_lt, hk, decide_true, cond_true, ix_nat hk, Int.toNat_natCast, strips_get h w (show k < h.Half.length - 1 by omega), bd_eq, w64_succ (show k < 9223372036854775807 by omega)]
      rw [hx, ← e, w64_id (by omega) (by omega)]
    · show impl_sumOf_L3 n _ _ x _ _ _ = _
      unfold impl_sumOf_L3
      simp only [Int.lt_irrefl, decide_false, cond_false]
      rw [hx, hsl]
      rfl
  rw [this, Option.bind_some]
end Go.Sm
end

section
set_option linter.unusedSimpArgs false
set_option linter.deprecated false
set_option linter.unusedSectionVars false
set_option linter.unusedVariables false
set_option linter.unusedSimpArgs false
namespace Go.Sm
attribute [local irreducible] bd chk ix loopN
theorem mul_rng {a b m k : Int} (ha : 0 ≤ a ∧ a ≤ m) (hb : 0 ≤ b ∧ b ≤ k) : 0 ≤ a * b ∧ a * b ≤ m * k :=
  ⟨Int.mul_nonneg ha.1 hb.1, Int.mul_le_mul ha.2 hb.2 hb.1 (by omega)⟩
theorem plane_ok {n : Nat} {h : SHull} {W : Nat} (d : Dw h W) {w : Nat} (hw : w < W) (hn : 1000000000 < n) : ∃ P, impl_Plane n h (w : Int) = some P ∧ 0 ≤ P ∧ P ≤ 14400 := by
  have hl := d.len
  have hW := d.wide
  have hst := d.step
  have hm : w64 ((h.Half.length : Int) - 1) = ((h.Half.length - 1 : Nat) : Int) := by rw [w64_id (by omega) (by omega)]; omega
  have key : ∃ P, impl_strips__impl_Plane_1 n h (w : Int) = some P ∧ 0 ≤ P ∧ P ≤ 14400 := by
    unfold impl_strips__impl_Plane_1
    rw [bd_eq, hm]
    refine loop_runS (S := Int) (X := Int × Int) (enc := fun k s => (s, k)) (len := h.Half.length - 1) (I := fun k s => 0 ≤ s ∧ s ≤ 1200 * (k : Int)) (Q := fun r => ∃ P, r = some P ∧ 0 ≤ P ∧ P ≤ 14400) (fun i s J hi hI => ?_) (fun s J hI => ?_) (by omega) (s0 := 0) (by omega)
    · have hi1 : i + 1 < h.Half.length := by omega
      have a1 := d.cell i w (by omega) hw
      have a2 := d.cell (i + 1) w hi1 hw
      have r1 := d.rows i (by omega)
      have r2 := d.rows (i + 1) hi1
      have hs : w64 ((h.Half.getD i []).getD w 0 + (h.Half.getD (i + 1) []).getD w 0) = (h.Half.getD i []).getD w 0 + (h.Half.getD (i + 1) []).getD w 0 := w64_id (by omega) (by omega)
      have hp := mul_rng (a := h.Step) (b := (h.Half.getD i []).getD w 0 + (h.Half.getD (i + 1) []).getD w 0) (m := 12) (k := 100) (by omega) (by omega)
      refine ⟨s + h.Step * ((h.Half.getD i []).getD w 0 + (h.Half.getD (i + 1) []).getD w 0), by omega, ?_⟩
      show impl_strips__impl_Plane_1_L3 n _ _ (w : Int) s ((h.Half.length - 1 : Nat) : Int) (i : Int) h = _
      unfold impl_strips__impl_Plane_1_L3 impl_strips__impl_Plane_1_k0 impl_Plane_1
      simp only [Int.ofNat_lt, hi, decide_true, cond_true, ix_nat (show i < h.Half.length by omega), Int.toNat_natCast, ix_nat (show w < (h.Half.getD i []).length by omega), w64_succ (show i < 9223372036854775807 by omega), ix_nat hi1, ix_nat (show w < (h.Half.getD (i + 1) []).length by omega), bd_eq, Option.bind_some, hs]
      rw [w64_id (x := h.Step * ((h.Half.getD i []).getD w 0 + (h.Half.getD (i + 1) []).getD w 0)) (by omega) (by omega), w64_id (by omega) (by omega)]
    · refine ⟨s, ?_, by omega, by omega⟩
      show impl_strips__impl_Plane_1_L3 n _ _ (w : Int) s ((h.Half.length - 1 : Nat) : Int) ((h.Half.length - 1 : Nat) : Int) h = _
      unfold impl_strips__impl_Plane_1_L3
      simp only [Int.lt_irrefl, decide_false, cond_false]
  obtain ⟨P, k1, k2⟩ := key
  unfold impl_Plane
  rw [water_impl d (w := (w : Int)) (by omega) hn, Option.bind_some, Bool.not_true, cond_false, k1, Option.bind_some]
  exact ⟨P, rfl, k2⟩
theorem inertia_ok {n : Nat} {h : SHull} {W : Nat} (d : Dw h W) {w : Nat} (hw : w < W) (hn : 1000000000 < n) : ∃ P, impl_Inertia3 n h (w : Int) = some P ∧ 0 ≤ P ∧ P ≤ 36000000 := by
  have hl := d.len
  have hW := d.wide
  have hst := d.step
  have hm : w64 ((h.Half.length : Int) - 1) = ((h.Half.length - 1 : Nat) : Int) := by rw [w64_id (by omega) (by omega)]; omega
  have cube : ∀ x : Int, 0 ≤ x ∧ x ≤ 50 → w64 ((w64 (x * x)) * x) = x * x * x ∧ 0 ≤ x * x * x ∧ x * x * x ≤ 125000 := by
    intro x hx
    have p1 := mul_rng hx hx
    have p2 := mul_rng (a := x * x) (b := x) (m := 2500) (k := 50) (by omega) hx
    refine ⟨?_, by omega⟩
    rw [w64_id (x := x * x) (by omega) (by omega)]
    exact w64_id (by omega) (by omega)
  have key : ∃ P, impl_strips__impl_Inertia3_1 n h (w : Int) = some P ∧ 0 ≤ P ∧ P ≤ 36000000 := by
    unfold impl_strips__impl_Inertia3_1
    rw [bd_eq, hm]
    refine loop_runS (S := Int) (X := Int × Int) (enc := fun k s => (s, k)) (len := h.Half.length - 1) (I := fun k s => 0 ≤ s ∧ s ≤ 3000000 * (k : Int)) (Q := fun r => ∃ P, r = some P ∧ 0 ≤ P ∧ P ≤ 36000000) (fun i s J hi hI => ?_) (fun s J hI => ?_) (by omega) (s0 := 0) (by omega)
    · have hi1 : i + 1 < h.Half.length := by omega
      obtain ⟨c1, c2, c3⟩ := cube _ (d.cell i w (by omega) hw)
      obtain ⟨c4, c5, c6⟩ := cube _ (d.cell (i + 1) w hi1 hw)
      have r1 := d.rows i (by omega)
      have r2 := d.rows (i + 1) hi1
      generalize hA : (h.Half.getD i []).getD w 0 = A at *
      generalize hB : (h.Half.getD (i + 1) []).getD w 0 = B at *
      have hs : w64 (A * A * A + B * B * B) = A * A * A + B * B * B := w64_id (by omega) (by omega)
      have hp := mul_rng (a := h.Step) (b := A * A * A + B * B * B) (m := 12) (k := 250000) (by omega) (by omega)
      refine ⟨s + h.Step * (A * A * A + B * B * B), by omega, ?_⟩
      show impl_strips__impl_Inertia3_1_L3 n _ _ (w : Int) s ((h.Half.length - 1 : Nat) : Int) (i : Int) h = _
      unfold impl_strips__impl_Inertia3_1_L3 impl_strips__impl_Inertia3_1_k0 impl_Inertia3_1
      simp only [Int.ofNat_lt, hi, decide_true, cond_true, ix_nat (show i < h.Half.length by omega), Int.toNat_natCast, ix_nat (show w < (h.Half.getD i []).length by omega), w64_succ (show i < 9223372036854775807 by omega), ix_nat hi1, ix_nat (show w < (h.Half.getD (i + 1) []).length by omega), bd_eq, Option.bind_some, hA, hB, c1, c4, hs]
      rw [w64_id (x := h.Step * (A * A * A + B * B * B)) (by omega) (by omega), w64_id (by omega) (by omega)]
    · refine ⟨s, ?_, by omega, by omega⟩
      show impl_strips__impl_Inertia3_1_L3 n _ _ (w : Int) s ((h.Half.length - 1 : Nat) : Int) ((h.Half.length - 1 : Nat) : Int) h = _
      unfold impl_strips__impl_Inertia3_1_L3
      simp only [Int.lt_irrefl, decide_false, cond_false]
  obtain ⟨P, k1, k2⟩ := key
  unfold impl_Inertia3
  rw [water_impl d (w := (w : Int)) (by omega) hn, Option.bind_some, Bool.not_true, cond_false, k1, Option.bind_some]
  exact ⟨P, rfl, k2⟩
theorem height_ok {n : Nat} {h : SHull} {W : Nat} (d : Dw h W) {w : Nat} (hw : w < W) (hn : 1000000000 < n) : ∃ P, impl_Height4 n h (w : Int) = some P ∧ 0 ≤ P ∧ P ≤ 140000000 := by
  have hl := d.len
  have hW := d.wide
  have hri := d.rise
  unfold impl_Height4
  rw [water_impl d (w := (w : Int)) (by omega) hn, Option.bind_some, Bool.not_true, cond_false]
  refine loop_runS (S := Int) (X := Int × Int) (enc := fun k s => (s, k)) (len := w) (I := fun k s => 0 ≤ s ∧ s ≤ 14000000 * (k : Int)) (Q := fun r => ∃ P, r = some P ∧ 0 ≤ P ∧ P ≤ 140000000) (fun k s J hk hI => ?_) (fun s J hI => ?_) (by omega) (s0 := 0) (by omega)
  · obtain ⟨P1, e1, b1, b2⟩ := plane_ok (n := n) d (w := k) (by omega) hn
    obtain ⟨P2, e2, b3, b4⟩ := plane_ok (n := n) d (w := k + 1) (by omega) hn
    have p1 := mul_rng (a := h.Rise) (b := P1 + P2) (m := 5) (k := 28800) (by omega) (by omega)
    have p2 := mul_rng (a := h.Rise * (P1 + P2)) (b := h.Rise) (m := 144000) (k := 5) (by omega) (by omega)
    have p3 := mul_rng (a := h.Rise * (P1 + P2) * h.Rise) (b := 2 * (k : Int) + 1) (m := 720000) (k := 19) (by omega) (by omega)
    refine ⟨s + h.Rise * (P1 + P2) * h.Rise * (2 * (k : Int) + 1), by omega, ?_⟩
    show impl_Height4_L5 n _ _ s (w : Int) (k : Int) h = _
    unfold impl_Height4_L5 impl_Height4_k0
    rw [decide_eq_true (show (k : Int) < (w : Int) by omega), cond_true, e1, Option.bind_some, w64_succ (show k < 9223372036854775807 by omega), e2, Option.bind_some]
    simp only [bd_eq]
    rw [w64_id (x := P1 + P2) (by omega) (by omega), w64_id (x := h.Rise * (P1 + P2)) (by omega) (by omega), w64_id (x := 2 * (k : Int)) (by omega) (by omega), w64_id (x := 2 * (k : Int) + 1) (by omega) (by omega), w64_id (x := h.Rise * (P1 + P2) * h.Rise) (by omega) (by omega), w64_id (x := h.Rise * (P1 + P2) * h.Rise * (2 * (k : Int) + 1)) (by omega) (by omega), w64_id (by omega) (by omega)]
  · refine ⟨s, ?_, by omega, by omega⟩
    show impl_Height4_L5 n _ _ s (w : Int) (w : Int) h = _
    unfold impl_Height4_L5
    simp only [Int.lt_irrefl, decide_false, cond_false]
end Go.Sm
end

section
set_option linter.unusedSimpArgs false
set_option linter.deprecated false
set_option linter.unusedSectionVars false
set_option linter.unusedVariables false
set_option linter.unusedSimpArgs false
namespace Go.Sm
attribute [local irreducible] bd chk ix loopN
structure MOk (m : SMass) : Prop where
  w : 0 ≤ m.Weight ∧ m.Weight ≤ 30
  x : 0 ≤ m.X ∧ m.X ≤ 9
  z : 0 ≤ m.Z ∧ m.Z ≤ 15
def accL (L : List SMass) : Nat → SMass
  | 0 => ⟨0, 0, 0⟩
  | k + 1 => ⟨(accL L k).Weight + (L.getD k dSMass).Weight, (accL L k).X + (L.getD k dSMass).Weight * (L.getD k dSMass).X, (accL L k).Z + (L.getD k dSMass).Weight * (L.getD k dSMass).Z⟩
theorem accL_rng {L : List SMass} (hL : ∀ k, k < 3 → MOk (L.getD k dSMass)) : ∀ k, k ≤ 3 → (0 ≤ (accL L k).Weight ∧ (accL L k).Weight ≤ 30 * (k : Int)) ∧ (0 ≤ (accL L k).X ∧ (accL L k).X ≤ 270 * (k : Int)) ∧ (0 ≤ (accL L k).Z ∧ (accL L k).Z ≤ 450 * (k : Int))
  | 0, _ => by refine ⟨⟨Int.le_refl _, ?_⟩, ⟨Int.le_refl _, ?_⟩, ⟨Int.le_refl _, ?_⟩⟩ <;> (show (0 : Int) ≤ _ * 0; omega)
  | k + 1, hk => by
    obtain ⟨i1, i2, i3⟩ := accL_rng hL k (by omega)
    obtain ⟨m1, m2, m3⟩ := hL k (by omega)
    have p1 := mul_rng m1 m2
    have p2 := mul_rng m1 m3
    unfold accL
    dsimp only
    omega
theorem load_ok {n : Nat} {L : List SMass} (h3 : L.length = 3) (hL : ∀ k, k < 3 → MOk (L.getD k dSMass)) (hn : 1000000000 < n) : impl_LoadOf n L = some (⟨(accL L 3).Weight, (accL L 3).X, (accL L 3).Z⟩, true) := by
  have hM : impl_MassesOk n L = some true := by
    unfold impl_MassesOk slices_ContainsFunc_impl_Mass_impl_Mass__impl_MassesOk_1 slices_IndexFunc_impl_Mass_impl_Mass__impl_MassesOk_1
    rw [decide_eq_true (show (L.length : Int) ≤ 40 by omega), cond_true]
    rw [loop_idx (p := fun _ => false) (len := L.length) (by omega) (fun k J h _ => ?_) (fun J _ => ?_) (by omega)]
    · rw [Option.bind_some, idxOf_ge, Option.bind_some, show (List.range L.length).any (fun _ => false) = false from by rw [List.any_eq_false]; intro x _; simp]
      rfl
    · obtain ⟨m1, m2, m3⟩ := hL k (by omega)
      unfold slices_IndexFunc_impl_Mass_impl_Mass__impl_MassesOk_1_L2 impl_MassesOk_1
      simp only [Int.ofNat_lt, h, decide_true, cond_true, ix_nat h, bd_eq, Int.toNat_natCast, in_impl, Option.bind_some, decide_eq_true (show 0 ≤ (L.getD k dSMass).Weight ∧ (L.getD k dSMass).Weight ≤ 10000 by omega), decide_eq_true (show -1200 ≤ (L.getD k dSMass).X ∧ (L.getD k dSMass).X ≤ 2400 by omega), decide_eq_true (show 0 ≤ (L.getD k dSMass).Z ∧ (L.getD k dSMass).Z ≤ 1000 by omega), Bool.not_true, cond_false, w64_succ (show k < 9223372036854775807 by omega)]
    · unfold slices_IndexFunc_impl_Mass_impl_Mass__impl_MassesOk_1_L2
      simp only [Int.lt_irrefl, decide_false, cond_false]
  unfold impl_LoadOf
  rw [hM, Option.bind_some, Bool.not_true, cond_false]
  unfold impl_LoadOf_k1
  refine loop_runS (S := SMass) (X := Int × SMass) (enc := fun k s => (k, s)) (len := L.length) (I := fun k s => s = accL L k) (Q := fun r => r = some ((⟨(accL L 3).Weight, (accL L 3).X, (accL L 3).Z⟩ : SLoad), true)) (fun k s J hk hI => ?_) (fun s J hI => ?_) (by omega) (s0 := ⟨0, 0, 0⟩) rfl
  · refine ⟨accL L (k + 1), rfl, ?_⟩
    obtain ⟨i1, i2, i3⟩ := accL_rng hL k (by omega)
    obtain ⟨m1, m2, m3⟩ := hL k (by omega)
    have p1 := mul_rng m1 m2
    have p2 := mul_rng m1 m3
    show impl_LoadOf_L5 n _ _ L (L.length : Int) (k : Int) _ s = _
    unfold impl_LoadOf_L5 impl_LoadOf_k0
    subst hI
    simp only [Int.ofNat_lt, hk, decide_true, cond_true, ix_nat hk, bd_eq, Int.toNat_natCast, w64_succ (show k < 9223372036854775807 by omega)]
    rw [w64_id (x := (accL L k).Weight + (L.getD k dSMass).Weight) (by omega) (by omega), w64_id (x := (L.getD k dSMass).Weight * (L.getD k dSMass).X) (by omega) (by omega), w64_id (x := (L.getD k dSMass).Weight * (L.getD k dSMass).Z) (by omega) (by omega), w64_id (x := (accL L k).X + (L.getD k dSMass).Weight * (L.getD k dSMass).X) (by omega) (by omega), w64_id (x := (accL L k).Z + (L.getD k dSMass).Weight * (L.getD k dSMass).Z) (by omega) (by omega)]
    rfl
  · show impl_LoadOf_L5 n _ _ L (L.length : Int) (L.length : Int) _ s = _
    unfold impl_LoadOf_L5
    simp only [Int.lt_irrefl, decide_false, cond_false]
    rw [hI, h3]
/-- What the metacentre comes to, for three masses and no tank. -/
theorem meta_ok {n : Nat} {h : SHull} {W : Nat} (d : Dw h W) {w : Nat} (hw : w < W) (hn : 1000000000 < n) : ∃ A : Int, (0 ≤ A ∧ A ≤ 1000000000) ∧ ∀ L : List SMass, L.length = 3 → (∀ k, k < 3 → MOk (L.getD k dSMass)) → 1 ≤ (accL L 3).Weight →
    (vol h w = 0 → impl_Metacentre n h (w : Int) L [] = some (⟨0, 0⟩, false)) ∧ (vol h w ≠ 0 → impl_Metacentre n h (w : Int) L [] = (impl_fracOf n (A * (accL L 3).Weight - 6 * vol h w * (accL L 3).Z) (6 * vol h w * (accL L 3).Weight)).bind fun r => some (r, true)) := by
  obtain ⟨H, e1, b1, b2⟩ := height_ok (n := n) d hw hn
  obtain ⟨I, e2, b3, b4⟩ := inertia_ok (n := n) d hw hn
  refine ⟨3 * H + 4 * I, by omega, fun L h3 hL hW1 => ?_⟩
  obtain ⟨i1, i2, i3⟩ := accL_rng hL 3 (Nat.le_refl _)
  have hv := totK_rng d hw (h.Half.length - 1) (by have := d.len; omega)
  have hl := d.len
  have hvv : vol h w = totK h w (h.Half.length - 1) := rfl
  have hT : impl_tanksOk n [] = some true := by
    unfold impl_tanksOk slices_ContainsFunc_impl_Tank_impl_Tank__impl_tanksOk_1 slices_IndexFunc_impl_Tank_impl_Tank__impl_tanksOk_1
    rw [decide_eq_true (show ((([] : List STank).length : Nat) : Int) ≤ 10 by simp), cond_true]
    rw [loop_idx (p := fun _ => false) (len := ([] : List STank).length) (by simp) (fun k J hk _ => absurd hk (Nat.not_lt_zero _)) (fun J _ => ?_) (by simp; omega)]
    · rfl
    · unfold slices_IndexFunc_impl_Tank_impl_Tank__impl_tanksOk_1_L2
      simp only [Int.lt_irrefl, decide_false, cond_false]
  have hM : impl_Metacentre n h (w : Int) L [] = bif decide (vol h w = 0) then some (⟨0, 0⟩, false) else impl_Metacentre_k1 n (w : Int) [] (vol h w) h ⟨(accL L 3).Weight, (accL L 3).X, (accL L 3).Z⟩ := by
    unfold impl_Metacentre
    rw [vol_impl d hw hn, Option.bind_some, load_ok h3 hL hn, Option.bind_some]
    dsimp only
    rw [Bool.not_true, cond_false, decide_eq_false (show ¬ (accL L 3).Weight = 0 by omega), cond_false, hT, Option.bind_some, Bool.not_true, cond_false]
  refine ⟨fun hz => by rw [hM, decide_eq_true hz]; rfl, fun hz => ?_⟩
  rw [hM, decide_eq_false hz, cond_false]
  unfold impl_Metacentre_k1
  obtain ⟨m, hm⟩ : ∃ m, n = m + 1 := ⟨n - 1, by omega⟩
  have hstep : ∀ (kx0 : Int → Option (SFrac × Bool)), loopN (fun (x : Int × Int) J' => impl_Metacentre_L7 n kx0 (fun free38 t39 => J' (free38, t39)) (w : Int) (vol h w) x.1 [] ((([] : List STank).length : Nat) : Int) x.2 h (⟨0, 0⟩ : SFrac) ⟨(accL L 3).Weight, (accL L 3).X, (accL L 3).Z⟩) n ((0 : Int), (0 : Int)) = kx0 0 := by
    intro kx0
    have : ∀ b : (Int × Int) → ((Int × Int) → Option (SFrac × Bool)) → Option (SFrac × Bool), loopN b n (0, 0) = b (0, 0) (loopN b m) := fun b => by rw [hm, loopN_succ]
    rw [this]
    unfold impl_Metacentre_L7
    rw [decide_eq_false (by simp), cond_false]
  refine (hstep _).trans ?_
  have p1 := mul_rng (a := 3 * H + 4 * I) (b := (accL L 3).Weight) (m := 1000000000) (k := 90) (by omega) (by omega)
  have p2 := mul_rng (a := 6 * vol h w) (b := (accL L 3).Z) (m := 9000000) (k := 1350) (by omega) (by omega)
  have p3 := mul_rng (a := 6 * vol h w) (b := (accL L 3).Weight) (m := 9000000) (k := 90) (by omega) (by omega)
  rw [e1, Option.bind_some, e2, Option.bind_some]
  simp only [bd_eq, Int.sub_zero]
  rw [w64_id (x := 3 * H) (by omega) (by omega), w64_id (x := 4 * I) (by omega) (by omega), w64_id (x := 3 * H + 4 * I) (by omega) (by omega), w64_id (x := 3 * H + 4 * I) (by omega) (by omega), w64_id (x := (3 * H + 4 * I) * (accL L 3).Weight) (by omega) (by omega), w64_id (x := 6 * vol h w) (by omega) (by omega), w64_id (x := 6 * vol h w * (accL L 3).Z) (by omega) (by omega), w64_id (x := 6 * vol h w * (accL L 3).Weight) (by omega) (by omega), w64_id (by omega) (by omega)]
end Go.Sm
end

section
set_option linter.unusedSimpArgs false
set_option linter.deprecated false
set_option linter.unusedSectionVars false
set_option linter.unusedVariables false
set_option linter.unusedSimpArgs false
namespace Go.Sm
attribute [local irreducible] bd chk ix loopN
theorem at_ok {n : Nat} {code : List Int} (hc : code.length ≤ 1048576) (hb : ∀ y ∈ code, rng 0 255 y) {i : Int} (hi : 0 ≤ i ∧ i ≤ 8) : ∃ v, laws_at n code i = some v ∧ 0 ≤ v ∧ v ≤ 255 := by
  unfold laws_at
  by_cases c : i < (code.length : Int)
  · have hm := hb (code.getD i.toNat 0) (getD_mem (by omega))
    obtain ⟨q1, q2⟩ := hm
    rw [decide_eq_true c, cond_true, ix_of hi.1 c, w64_id (by omega) (by omega)]
    exact ⟨_, rfl, q1, q2⟩
  · rw [decide_eq_false c, cond_false, bd_eq, bd_eq, w64_id (x := i * 7) (by omega) (by omega), w64_id (by omega) (by omega)]
    have q1 := Int.tmod_nonneg (a := i * 7 + (code.length : Int)) 256 (by omega)
    have q2 := Int.tmod_lt_of_pos (i * 7 + (code.length : Int)) (b := 256) (by omega)
    exact ⟨_, rfl, q1, by omega⟩
theorem tmod_in {x m : Int} (hx : 0 ≤ x) (hm : 0 < m) : 0 ≤ Int.tmod x m ∧ Int.tmod x m < m := ⟨Int.tmod_nonneg _ hx, Int.tmod_lt_of_pos _ hm⟩
theorem raised_core {n : Nat} (code : List Int) (hc : code.length ≤ 1048576) (hb : ∀ y ∈ code, rng 0 255 y) (hn : 1000000000 < n) : laws_FnRaised_k1 n code = some true := by
  obtain ⟨h, w0, e0, hd, hw0, hw1⟩ := draw_ok (n := n) code hc hn
  obtain ⟨W, d⟩ := drawn_dw hd
  have hr0 := d.rows 0 (by have := d.len; omega)
  obtain ⟨w, rfl⟩ : ∃ w : Nat, w0 = (w : Int) := ⟨w0.toNat, by omega⟩
  have hw : w < W := by omega
  obtain ⟨r3, e3, a3, a3'⟩ := at_ok (n := n) hc hb (i := 4) (by omega)
  obtain ⟨r4, e4, a4, a4'⟩ := at_ok (n := n) hc hb (i := 5) (by omega)
  obtain ⟨r5, e5, a5, a5'⟩ := at_ok (n := n) hc hb (i := 6) (by omega)
  obtain ⟨r6, e6, a6, a6'⟩ := at_ok (n := n) hc hb (i := 7) (by omega)
  obtain ⟨r11, e11, a11, a11'⟩ := at_ok (n := n) hc hb (i := 8) (by omega)
  have t1 := tmod_in a3 (m := 30) (by omega)
  have t2 := tmod_in a4 (m := 9) (by omega)
  have t3 := tmod_in a5 (m := 12) (by omega)
  have t4 := tmod_in a6 (m := 5) (by omega)
  have t5 := tmod_in a11 (m := 4) (by omega)
  unfold laws_FnRaised_k1
  rw [e0, Option.bind_some, e3, Option.bind_some, e4, Option.bind_some, e5, Option.bind_some, e6, Option.bind_some, e11]
  generalize Int.tmod r3 30 = p at *
  generalize Int.tmod r4 9 = x at *
  generalize Int.tmod r5 12 = z at *
  generalize Int.tmod r6 5 = u at *
  simp only [Option.bind_some]
  generalize Int.tmod r11 4 = t at *
  obtain ⟨A, hA, hmeta⟩ := meta_ok (n := n) d hw hn
  have hz1 : w64 (z + 1) = z + 1 := w64_id (by omega) (by omega)
  have hz2 : w64 (z + 1 + t) = z + 1 + t := w64_id (by omega) (by omega)
  have hL : ∀ k, k < 3 → MOk (([⟨5, 0, 1⟩, ⟨p, x, z⟩, ⟨3, 0, u⟩] : List SMass).getD k dSMass) := by
    intro k hk
    have : k = 0 ∨ k = 1 ∨ k = 2 := by omega
    rcases this with rfl | rfl | rfl
    · exact ⟨by show (0 : Int) ≤ 5 ∧ (5 : Int) ≤ 30; omega, by show (0 : Int) ≤ 0 ∧ (0 : Int) ≤ 9; omega, by show (0 : Int) ≤ 1 ∧ (1 : Int) ≤ 15; omega⟩
    · exact ⟨by show 0 ≤ p ∧ p ≤ 30; omega, by show 0 ≤ x ∧ x ≤ 9; omega, by show 0 ≤ z ∧ z ≤ 15; omega⟩
    · exact ⟨by show (0 : Int) ≤ 3 ∧ (3 : Int) ≤ 30; omega, by show (0 : Int) ≤ 0 ∧ (0 : Int) ≤ 9; omega, by show 0 ≤ u ∧ u ≤ 15; omega⟩
  have hL2 : ∀ k, k < 3 → MOk (([⟨5, 0, 1⟩, ⟨p, x, z + 1 + t⟩, ⟨3, 0, u⟩] : List SMass).getD k dSMass) := by
    intro k hk
    have : k = 0 ∨ k = 1 ∨ k = 2 := by omega
    rcases this with rfl | rfl | rfl
    · exact hL 0 (by omega)
    · exact ⟨by show 0 ≤ p ∧ p ≤ 30; omega, by show 0 ≤ x ∧ x ≤ 9; omega, by show 0 ≤ z + 1 + t ∧ z + 1 + t ≤ 15; omega⟩
    · exact hL 2 (by omega)
  have lo1 := load_ok (n := n) (L := [⟨5, 0, 1⟩, ⟨p, x, z⟩, ⟨3, 0, u⟩]) rfl hL hn
  have lo2 := load_ok (n := n) (L := [⟨5, 0, 1⟩, ⟨p, x, z + 1 + t⟩, ⟨3, 0, u⟩]) rfl hL2 hn
  have s1 : (accL [⟨5, 0, 1⟩, ⟨p, x, z⟩, ⟨3, 0, u⟩] 3).Weight = 0 + 5 + p + 3 := rfl
  have s2 : (accL [⟨5, 0, 1⟩, ⟨p, x, z + 1 + t⟩, ⟨3, 0, u⟩] 3).Weight = 0 + 5 + p + 3 := rfl
  have s3 : (accL [⟨5, 0, 1⟩, ⟨p, x, z⟩, ⟨3, 0, u⟩] 3).Z = 0 + 5 * 1 + p * z + 3 * u := rfl
  have s4 : (accL [⟨5, 0, 1⟩, ⟨p, x, z + 1 + t⟩, ⟨3, 0, u⟩] 3).Z = 0 + 5 * 1 + p * (z + 1 + t) + 3 * u := rfl
  obtain ⟨mA1, mA2⟩ := hmeta _ rfl hL (by omega)
  obtain ⟨mB1, mB2⟩ := hmeta _ rfl hL2 (by omega)
  have r1 := accL_rng hL 3 (Nat.le_refl _)
  have r2 := accL_rng hL2 3 (Nat.le_refl _)
  have hdz : p * (z + 1 + t) = p * z + p * (1 + t) := by rw [Int.add_assoc, Int.mul_add]
  have pd := mul_rng (a := p) (b := 1 + t) (m := 30) (k := 5) (by omega) (by omega)
  have g1 : w64 ((accL [⟨5, 0, 1⟩, ⟨p, x, z + 1 + t⟩, ⟨3, 0, u⟩] 3).Z - (accL [⟨5, 0, 1⟩, ⟨p, x, z⟩, ⟨3, 0, u⟩] 3).Z) = p * (1 + t) := by rw [w64_id (by omega) (by omega)]; omega
  have g2 : w64 (p * w64 (z + 1 + t - z)) = p * (1 + t) := by rw [w64_id (x := z + 1 + t - z) (by omega) (by omega), show z + 1 + t - z = 1 + t by omega]; exact w64_id (by omega) (by omega)
  have hix : ∀ {R : Type} (a b c : SMass) (y : Option R), ix (1 : Int) [a, b, c].length y = y := fun a b c y => ix_of (by omega) (by simp)
  have hk1 : ∀ {R : Type} (a b c : SMass) (y : Option R), chk (decide (1 < [a, b, c].length)) y = y := fun a b c y => chk_dec (by simp)
  have hk2 : ∀ {R : Type} (a b c : SMass) (y : Option R), chk (decide ([a, b, c].length * 24 ≤ 140737488355328)) y = y := fun a b c y => chk_dec (by simp)
  simp only [bd_eq, hix, hk1, hk2, lo1, Option.bind_some, List.getD_cons_succ, List.getD_cons_zero, List.set_cons_succ, List.set_cons_zero, hz1, hz2, lo2, g1, g2, decide_true, Bool.not_true, cond_false, vol_spec d hw hn]
  rw [decide_eq_true (show (accL [⟨5, 0, 1⟩, ⟨p, x, z + 1 + t⟩, ⟨3, 0, u⟩] 3).Weight = (accL [⟨5, 0, 1⟩, ⟨p, x, z⟩, ⟨3, 0, u⟩] 3).Weight from rfl)]
  simp only [Bool.not_true, cond_false]
  by_cases hz : vol h w = 0
  · rw [mA1 hz, mB1 hz]
    simp only [Option.bind_some, decide_eq_true hz, cond_true, Bool.not_false]
  · have hvr := totK_rng d hw (h.Half.length - 1) (by have := d.len; omega)
    have hvv : vol h w = totK h w (h.Half.length - 1) := rfl
    have hl := d.len
    have q1 := mul_rng (a := A) (b := 0 + 5 + p + 3) (m := 1000000000) (k := 90) (by omega) (by omega)
    have q2 := mul_rng (a := 6 * vol h w) (b := (accL [⟨5, 0, 1⟩, ⟨p, x, z⟩, ⟨3, 0, u⟩] 3).Z) (m := 9000000) (k := 1350) (by omega) (by omega)
    have q3 := mul_rng (a := 6 * vol h w) (b := (accL [⟨5, 0, 1⟩, ⟨p, x, z + 1 + t⟩, ⟨3, 0, u⟩] 3).Z) (m := 9000000) (k := 1350) (by omega) (by omega)
    have q4 := mul_rng (a := 6 * vol h w) (b := 0 + 5 + p + 3) (m := 9000000) (k := 90) (by omega) (by omega)
    have q5 : 1 * 1 ≤ 6 * vol h w * (0 + 5 + p + 3) := Int.mul_le_mul (by omega) (by omega) (by omega) (by omega)
    rw [mA2 hz, mB2 hz, s1, s2]
    obtain ⟨x1, y1, c1, f1, f2, f3, f4, f5, f6, f7, f8⟩ := frac_ok (n := n) (A * (0 + 5 + p + 3) - 6 * vol h w * (accL [⟨5, 0, 1⟩, ⟨p, x, z⟩, ⟨3, 0, u⟩] 3).Z) (6 * vol h w * (0 + 5 + p + 3)) (by omega) (by omega) hn
    obtain ⟨x2, y2, c2, k1, k2, k3, k4, k5, k6, k7, k8⟩ := frac_ok (n := n) (A * (0 + 5 + p + 3) - 6 * vol h w * (accL [⟨5, 0, 1⟩, ⟨p, x, z + 1 + t⟩, ⟨3, 0, u⟩] 3).Z) (6 * vol h w * (0 + 5 + p + 3)) (by omega) (by omega) hn
    have hdiff : 6 * vol h w * (accL [⟨5, 0, 1⟩, ⟨p, x, z + 1 + t⟩, ⟨3, 0, u⟩] 3).Z = 6 * vol h w * (accL [⟨5, 0, 1⟩, ⟨p, x, z⟩, ⟨3, 0, u⟩] 3).Z + 6 * vol h w * (p * (1 + t)) := by
      rw [← Int.mul_add]
      congr 1
      omega
    have hpos : 0 ≤ 6 * vol h w * (p * (1 + t)) := Int.mul_nonneg (by omega) pd.1
    have hle : x2 * y1 ≤ x1 * y2 := by
      have gp : 0 < c1 * c2 := Int.mul_pos f2 k2
      refine Int.le_of_mul_le_mul_right ?_ gp
      have e1 : x2 * y1 * (c1 * c2) = (x2 * c2) * (y1 * c1) := by ac_rfl
      have e2 : x1 * y2 * (c1 * c2) = (x1 * c1) * (y2 * c2) := by ac_rfl
      rw [e1, e2, ← f3, ← k3, ← f4, ← k4]
      exact Int.mul_le_mul_of_nonneg_right (by omega) (by omega)
    rw [f1, k1]
    simp only [Option.bind_some, decide_eq_false hz, cond_false]
    unfold laws_FnRaised_k0
    have hF1 : FrOk x1 y1 := ⟨⟨f7, f8⟩, by omega, by omega⟩
    have hF2 : FrOk x2 y2 := ⟨⟨k7, k8⟩, by omega, by omega⟩
    simp only [cond_true, decide_eq_true (show y1 > 0 by omega), decide_eq_true (show y2 > 0 by omega), not_less hF1 hF2 hle, Option.bind_some, Bool.not_false, hix, hk1, List.getD_cons_succ, List.getD_cons_zero]
    by_cases hp : p = 0
    · rw [decide_eq_true hp]; rfl
    · rw [decide_eq_false hp, cond_false]
      have hne : ¬ (x1 = x2 ∧ y1 = y2) := by
        rintro ⟨rfl, rfl⟩
        have hc12 : c1 = c2 := by
          have : y1 * c1 = y1 * c2 := by rw [← f4, ← k4]
          exact Int.eq_of_mul_eq_mul_left (by omega) this
        rw [← hc12] at k3
        have : 0 < 6 * vol h w * (p * (1 + t)) := Int.mul_pos (by omega) (Int.mul_pos (by omega) (by omega))
        omega
      by_cases e1 : x1 = x2
      · rw [decide_eq_true e1, decide_eq_false (fun e2 => hne ⟨e1, e2⟩)]; rfl
      · rw [decide_eq_false e1]; rfl
theorem laws_FnRaised_true (code0 : List Int) (h0 : (code0.length ≤ 9223372036854775807 ∧ ∀ y ∈ code0, rng 0 255 y)) : ∃ n, laws_FnRaised n code0 = some true := by
  refine ⟨1000000001, ?_⟩
  generalize hN : (1000000001 : Nat) = n
  have hn : 1000000000 < n := by omega
  unfold laws_FnRaised laws_big
  rw [Option.bind_some, bif_dec]
  split
  · rfl
  · exact raised_core code0 (by omega) h0.2 hn
end Go.Sm
end
