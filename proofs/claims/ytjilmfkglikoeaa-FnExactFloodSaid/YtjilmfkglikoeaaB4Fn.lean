import Derived.Test.YtjilmfkglikoeaaEngA
/- The functions as plain functions over data, and that the law answers true for all arguments. Flood: the hull with rooms full of water comes out alike from the written-out way and the built one, for every hull and all rooms. -/
section
set_option linter.unusedSimpArgs false
set_option linter.deprecated false
set_option linter.unusedSectionVars false
set_option linter.unusedVariables false
namespace Go.Sm
structure SHull where
  Step : Int
  Rise : Int
  Half : List (List Int)
structure SRoom where
  First : Int
  Last : Int
  Perm : Int
def dSHull : SHull := ⟨(0 : Int), (0 : Int), []⟩
def dSRoom : SRoom := ⟨(0 : Int), (0 : Int), (0 : Int)⟩
def laws_szIntS (n : Nat) (a0 : List Int) (left1 : Int) : Option Int :=
  (bd (w64 (left1 - (a0.length : Int))) fun (v1 : Int) => (bif (decide (v1 < (0 : Int))) then some ((-1 : Int)) else some (v1)))
def laws_szIntSS_L5 {R : Type} (n : Nat) (kx0 : Int → Option R) (kxr : Int → Option R) (J : Int → Int → Option R) (a3 : List (List Int)) (left4 : Int) (i5 : Int) : Option R :=
  (bif (decide (i5 < (a3.length : Int))) then ix i5 a3.length ((laws_szIntS n (a3.getD i5.toNat []) left4).bind fun r11 => (bif (decide (r11 < (0 : Int))) then kxr (-1 : Int) else J r11 (w64 (i5 + (1 : Int))))) else kx0 left4)
def laws_szIntSS (n : Nat) (a0 : List (List Int)) (left1 : Int) : Option Int :=
  (bd (w64 (left1 - (a0.length : Int))) fun (v1 : Int) => (bif (decide (v1 < (0 : Int))) then some ((-1 : Int)) else loopN (fun (x : Int × Int) J' => laws_szIntSS_L5 n (fun left18 => some (left18)) (fun t19 => some (t19)) (fun left20 i21 => J' (left20, i21)) a0 x.1 x.2) n (v1, (0 : Int))))
def laws_szHull (n : Nat) (a0 : SHull) (left1 : Int) : Option Int :=
  (laws_szIntSS n a0.Half left1).bind fun r1 => (bif (decide (r1 < (0 : Int))) then some ((-1 : Int)) else some (r1))
def laws_szRoomS (n : Nat) (a0 : List SRoom) (left1 : Int) : Option Int :=
  (bd (w64 (left1 - (a0.length : Int))) fun (v1 : Int) => (bif (decide (v1 < (0 : Int))) then some ((-1 : Int)) else some (v1)))
def laws_toIntS_L3 {R : Type} (n : Nat) (kx0 : List Int → Option R) (J : Int → List Int → Option R) (a1 : List Int) (i2 : Int) (out3 : List Int) : Option R :=
  (bif (decide (i2 < (a1.length : Int))) then ix i2 a1.length (ix i2 out3.length (chk (decide (i2.toNat < out3.length)) ((bd (out3.set i2.toNat (a1.getD i2.toNat (0 : Int))) fun (l7 : List Int) => J (w64 (i2 + (1 : Int))) l7)))) else kx0 out3)
def laws_toIntS (n : Nat) (a0 : List Int) : Option (List Int) :=
  chk (decide ((0 : Int) ≤ (a0.length : Int))) (chk (decide ((a0.length : Int) ≤ (a0.length : Int))) (chk (decide ((a0.length : Int) ≤ 9223372036854775807 ∧ (a0.length : Int) * (8 : Int) ≤ 281474976710656)) (loopN (fun (x : Int × List Int) J' => laws_toIntS_L3 n (fun out8 => some (out8)) (fun i9 out10 => J' (i9, out10)) a0 x.1 x.2) n ((0 : Int), (List.replicate (a0.length : Int).toNat (0 : Int))))))
def laws_toIntSS_L3 {R : Type} (n : Nat) (kx0 : List (List Int) → Option R) (J : Int → List (List Int) → Option R) (a1 : List (List Int)) (i2 : Int) (out3 : List (List Int)) : Option R :=
  (bif (decide (i2 < (a1.length : Int))) then ix i2 a1.length ((laws_toIntS n (a1.getD i2.toNat [])).bind fun r7 => ix i2 out3.length (chk (decide (i2.toNat < out3.length)) (J (w64 (i2 + (1 : Int))) (out3.set i2.toNat r7)))) else kx0 out3)
def laws_toIntSS (n : Nat) (a0 : List (List Int)) : Option (List (List Int)) :=
  chk (decide ((0 : Int) ≤ (a0.length : Int))) (chk (decide ((a0.length : Int) ≤ (a0.length : Int))) (chk (decide ((a0.length : Int) ≤ 9223372036854775807 ∧ (a0.length : Int) * (24 : Int) ≤ 281474976710656)) (loopN (fun (x : Int × List (List Int)) J' => laws_toIntSS_L3 n (fun out8 => some (out8)) (fun i9 out10 => J' (i9, out10)) a0 x.1 x.2) n ((0 : Int), (List.replicate (a0.length : Int).toNat [])))))
def laws_toHull (n : Nat) (a0 : SHull) : Option SHull :=
  (laws_toIntSS n a0.Half).bind fun r1 => some ((⟨a0.Step, a0.Rise, r1⟩ : SHull))
def laws_toRoom (n : Nat) (a0 : SRoom) : Option SRoom :=
  some (a0)
def laws_toRoomS_L3 {R : Type} (n : Nat) (kx0 : List SRoom → Option R) (J : Int → List SRoom → Option R) (a1 : List SRoom) (i2 : Int) (out3 : List SRoom) : Option R :=
  (bif (decide (i2 < (a1.length : Int))) then ix i2 a1.length ((bd (a1.getD i2.toNat dSRoom) fun (e8 : SRoom) => (laws_toRoom n e8).bind fun r9 => ix i2 out3.length (chk (decide (i2.toNat < out3.length)) (J (w64 (i2 + (1 : Int))) (out3.set i2.toNat r9))))) else kx0 out3)
def laws_toRoomS (n : Nat) (a0 : List SRoom) : Option (List SRoom) :=
  chk (decide ((0 : Int) ≤ (a0.length : Int))) (chk (decide ((a0.length : Int) ≤ (a0.length : Int))) (chk (decide ((a0.length : Int) ≤ 9223372036854775807 ∧ (a0.length : Int) * (24 : Int) ≤ 281474976710656)) (loopN (fun (x : Int × List SRoom) J' => laws_toRoomS_L3 n (fun out10 => some (out10)) (fun i11 out12 => J' (i11, out12)) a0 x.1 x.2) n ((0 : Int), (List.replicate (a0.length : Int).toNat dSRoom)))))
def spec_l1In (n : Nat) (x0 : Int) (a1 : Int) (b2 : Int) : Option Bool :=
  (bif (decide (x0 ≥ a1)) then some ((decide (x0 ≤ b2))) else some (false))
def spec_HullOk_L9 {R : Type} (n : Nat) (kx2 : Option R) (kxr : Bool → Option R) (J : Int → Option R) (s13 : Int) (w14 : Int) (h15 : SHull) : Option R :=
  ix s13 h15.Half.length ((bif (decide (w14 < ((h15.Half.getD s13.toNat []).length : Int))) then ix s13 h15.Half.length (ix w14 ((h15.Half.getD s13.toNat []).length) ((spec_l1In n ((h15.Half.getD s13.toNat []).getD w14.toNat (0 : Int)) (0 : Int) (50 : Int)).bind fun r19 => (bif (!r19) then kxr false else J (w64 (w14 + (1 : Int)))))) else kx2))
def spec_HullOk_k0 {R : Type} (n : Nat) (kx0 : Option R) (kxr : Bool → Option R) (J : Int → Option R) (s7 : Int) (h6 : SHull) : Option R :=
  ix s7 h6.Half.length (ix (0 : Int) h6.Half.length ((bif (!(decide (((h6.Half.getD s7.toNat []).length : Int) = ((h6.Half.getD 0 []).length : Int)))) then kxr false else ix s7 h6.Half.length ((spec_l1In n ((h6.Half.getD s7.toNat []).length : Int) (2 : Int) (10 : Int)).bind fun r9 => (bif (!r9) then kxr false else loopN (fun (x : Int) J' => spec_HullOk_L9 n (J (w64 (s7 + (1 : Int)))) (fun t29 => kxr t29) J' s7 x h6) n ((0 : Int)))))))
def spec_HullOk_L4 {R : Type} (n : Nat) (kx0 : Option R) (kxr : Bool → Option R) (J : Int → Option R) (s5 : Int) (h6 : SHull) : Option R :=
  (bif (decide (s5 < (h6.Half.length : Int))) then spec_HullOk_k0 n kx0 kxr J s5 h6 else kx0)
def spec_HullOk (n : Nat) (h0 : SHull) : Option Bool :=
  (spec_l1In n h0.Step (1 : Int) (100 : Int)).bind fun r1 => (bif (!r1) then some (false) else (spec_l1In n h0.Rise (1 : Int) (20 : Int)).bind fun r2 => (bif (!r2) then some (false) else (spec_l1In n (h0.Half.length : Int) (2 : Int) (12 : Int)).bind fun r3 => (bif (!r3) then some (false) else loopN (fun (x : Int) J' => spec_HullOk_L4 n (some (true)) (fun t35 => some (t35)) J' x h0) n ((0 : Int)))))
def spec_RoomsOk_k0 {R : Type} (n : Nat) (kx2 : Option R) (kxr : Bool → Option R) (J : Int → Option R) (rooms22 : List SRoom) (i23 : Int) (k27 : Int) (h25 : SHull) (r26 : SRoom) : Option R :=
  ix k27 rooms22.length ((bd (rooms22.getD k27.toNat dSRoom) fun (e28 : SRoom) => (bif (decide (r26.First ≤ e28.Last)) then ix k27 rooms22.length ((bd (rooms22.getD k27.toNat dSRoom) fun (e29 : SRoom) => (bif (decide (e29.First ≤ r26.Last)) then kxr false else J (w64 (k27 + (1 : Int)))))) else J (w64 (k27 + (1 : Int))))))
def spec_RoomsOk_L10 {R : Type} (n : Nat) (kx2 : Option R) (kxr : Bool → Option R) (J : Int → Option R) (rooms22 : List SRoom) (i23 : Int) (k24 : Int) (h25 : SHull) (r26 : SRoom) : Option R :=
  (bif (decide (k24 < i23)) then spec_RoomsOk_k0 n kx2 kxr J rooms22 i23 k24 h25 r26 else kx2)
def spec_RoomsOk_k1 {R : Type} (n : Nat) (kx0 : Option R) (kxr : Bool → Option R) (J : Int → Option R) (rooms3 : List SRoom) (i6 : Int) (h5 : SHull) : Option R :=
  ix i6 rooms3.length ((bd (rooms3.getD i6.toNat dSRoom) fun (e7 : SRoom) => (bd (w64 ((h5.Half.length : Int) - (1 : Int))) fun (v8 : Int) => (spec_l1In n e7.First (0 : Int) v8).bind fun r9 => (bif (!r9) then kxr false else (bd (w64 ((h5.Half.length : Int) - (1 : Int))) fun (v12 : Int) => (spec_l1In n e7.Last e7.First v12).bind fun r13 => (bif (!r13) then kxr false else (spec_l1In n e7.Perm (0 : Int) (100 : Int)).bind fun r16 => (bif (!r16) then kxr false else loopN (fun (x : Int) J' => spec_RoomsOk_L10 n (J (w64 (i6 + (1 : Int)))) (fun t46 => kxr t46) J' rooms3 i6 x h5 e7) n ((0 : Int)))))))))
def spec_RoomsOk_L4 {R : Type} (n : Nat) (kx0 : Option R) (kxr : Bool → Option R) (J : Int → Option R) (rooms3 : List SRoom) (i4 : Int) (h5 : SHull) : Option R :=
  (bif (decide (i4 < (rooms3.length : Int))) then spec_RoomsOk_k1 n kx0 kxr J rooms3 i4 h5 else kx0)
def spec_RoomsOk (n : Nat) (h0 : SHull) (rooms1 : List SRoom) : Option Bool :=
  (spec_HullOk n h0).bind fun r1 => (bif (!r1) then some (false) else (bif (decide ((rooms1.length : Int) > (8 : Int))) then some (false) else loopN (fun (x : Int) J' => spec_RoomsOk_L4 n (some (true)) (fun t52 => some (t52)) J' rooms1 x h0) n ((0 : Int))))
def spec_Flood_k0 {R : Type} (n : Nat) (kx2 : Int → Option R) (J : Int → Int → Option R) (rooms13 : List SRoom) (s14 : Int) (perm24 : Int) (i25 : Int) (h17 : SHull) (t18 : Int) (t19 : Int) (c20 : List (List Int)) (out21 : Int) (out22 : Int) (c23 : List (List Int)) : Option R :=
  ix i25 rooms13.length ((bd (rooms13.getD i25.toNat dSRoom) fun (e26 : SRoom) => ix i25 rooms13.length ((bd (rooms13.getD i25.toNat dSRoom) fun (e27 : SRoom) => (spec_l1In n s14 e26.First e27.Last).bind fun r28 => (bif r28 then ix i25 rooms13.length ((bd (rooms13.getD i25.toNat dSRoom) fun (e29 : SRoom) => J e29.Perm (w64 (i25 + (1 : Int))))) else J perm24 (w64 (i25 + (1 : Int))))))))
def spec_Flood_L9 {R : Type} (n : Nat) (kx2 : Int → Option R) (J : Int → Int → Option R) (rooms13 : List SRoom) (s14 : Int) (perm15 : Int) (i16 : Int) (h17 : SHull) (t18 : Int) (t19 : Int) (c20 : List (List Int)) (out21 : Int) (out22 : Int) (c23 : List (List Int)) : Option R :=
  (bif (decide (i16 < (rooms13.length : Int))) then spec_Flood_k0 n kx2 J rooms13 s14 perm15 i16 h17 t18 t19 c20 out21 out22 c23 else kx2 perm15)
def spec_Flood_k1 {R : Type} (n : Nat) (kx4 : List Int → Option R) (J : Int → List Int → Option R) (rooms35 : List SRoom) (s36 : Int) (perm37 : Int) (w47 : Int) (h39 : SHull) (t40 : Int) (t41 : Int) (c42 : List (List Int)) (out43 : Int) (out44 : Int) (c45 : List (List Int)) (row48 : List Int) : Option R :=
  ix s36 h39.Half.length (ix w47 ((h39.Half.getD s36.toNat []).length) ((bd (w64 ((100 : Int) - perm37)) fun (v49 : Int) => (bd (w64 (((h39.Half.getD s36.toNat []).getD w47.toNat (0 : Int)) * v49)) fun (v50 : Int) => (bd (w64 (Int.tdiv v50 (100 : Int))) fun (v51 : Int) => chk (decide ((row48 ++ [v51]).length * 8 ≤ 140737488355328)) (J (w64 (w47 + (1 : Int))) (row48 ++ [v51])))))))
def spec_Flood_L15 {R : Type} (n : Nat) (kx4 : List Int → Option R) (J : Int → List Int → Option R) (rooms35 : List SRoom) (s36 : Int) (perm37 : Int) (w38 : Int) (h39 : SHull) (t40 : Int) (t41 : Int) (c42 : List (List Int)) (out43 : Int) (out44 : Int) (c45 : List (List Int)) (row46 : List Int) : Option R :=
  ix s36 h39.Half.length ((bif (decide (w38 < ((h39.Half.getD s36.toNat []).length : Int))) then spec_Flood_k1 n kx4 J rooms35 s36 perm37 w38 h39 t40 t41 c42 out43 out44 c45 row46 else kx4 row46))
def spec_Flood_k2 {R : Type} (n : Nat) (kx0 : List (List Int) → Option R) (J : Int → List (List Int) → Option R) (rooms2 : List SRoom) (s11 : Int) (h4 : SHull) (t5 : Int) (t6 : Int) (c7 : List (List Int)) (out8 : Int) (out9 : Int) (c12 : List (List Int)) : Option R :=
  loopN (fun (x : Int × Int) J' => spec_Flood_L9 n (fun perm34 => loopN (fun (x : Int × List Int) J' => spec_Flood_L15 n (fun row52 => chk (decide ((c12 ++ [row52]).length * 24 ≤ 140737488355328)) (J (w64 (s11 + (1 : Int))) (c12 ++ [row52]))) (fun w53 row54 => J' (w53, row54)) rooms2 s11 perm34 x.1 h4 t5 t6 c7 out8 out9 c12 x.2) n ((0 : Int), [])) (fun perm55 i56 => J' (perm55, i56)) rooms2 s11 x.1 x.2 h4 t5 t6 c7 out8 out9 c12) n ((0 : Int), (0 : Int))
def spec_Flood_L5 {R : Type} (n : Nat) (kx0 : List (List Int) → Option R) (J : Int → List (List Int) → Option R) (rooms2 : List SRoom) (s3 : Int) (h4 : SHull) (t5 : Int) (t6 : Int) (c7 : List (List Int)) (out8 : Int) (out9 : Int) (c10 : List (List Int)) : Option R :=
  (bif (decide (s3 < (h4.Half.length : Int))) then spec_Flood_k2 n kx0 J rooms2 s3 h4 t5 t6 c7 out8 out9 c10 else kx0 c10)
def spec_Flood (n : Nat) (h0 : SHull) (rooms1 : List SRoom) : Option SHull :=
  (spec_RoomsOk n h0 rooms1).bind fun r1 => (bif (!r1) then some ((⟨(0 : Int), (0 : Int), []⟩ : SHull)) else loopN (fun (x : Int × List (List Int)) J' => spec_Flood_L5 n (fun c60 => some ((⟨h0.Step, h0.Rise, c60⟩ : SHull))) (fun s61 c62 => J' (s61, c62)) rooms1 x.1 h0 (0 : Int) (0 : Int) [] h0.Step h0.Rise x.2) n ((0 : Int), []))
def impl_in (n : Nat) (n0 : Int) (least1 : Int) (most2 : Int) : Option Bool :=
  (bif (decide (n0 ≥ least1)) then some ((decide (n0 ≤ most2))) else some (false))
def impl_all_1 (n : Nat) (n0 : Int) (a1 : Int) (a2 : Int) : Option Bool :=
  (impl_in n n0 a1 a2).bind fun r1 => some ((!r1))
def slices_IndexFunc_int_int__impl_all_1_L2 {R : Type} (n : Nat) (kx0 : Option R) (kxr : Int → Option R) (J : Int → Option R) (s1 : List Int) (f2 : Int) (f3 : Int) (t4 : Int) (t5 : Int) : Option R :=
  (bif (decide (t5 < t4)) then ix t5 s1.length ((impl_all_1 n (s1.getD t5.toNat (0 : Int)) f2 f3).bind fun r9 => (bif r9 then kxr t5 else J (w64 (t5 + (1 : Int))))) else kx0)
def slices_IndexFunc_int_int__impl_all_1 (n : Nat) (s0 : List Int) (f1c0 : Int) (f1c1 : Int) : Option Int :=
  loopN (fun (x : Int) J' => slices_IndexFunc_int_int__impl_all_1_L2 n (some ((-1 : Int))) (fun t11 => some (t11)) J' s0 f1c0 f1c1 (s0.length : Int) x) n ((0 : Int))
def slices_ContainsFunc_int_int__impl_all_1 (n : Nat) (s0 : List Int) (f1c0 : Int) (f1c1 : Int) : Option Bool :=
  (slices_IndexFunc_int_int__impl_all_1 n s0 f1c0 f1c1).bind fun r1 => some ((decide (r1 ≥ (0 : Int))))
def impl_all (n : Nat) (l0 : List Int) (least1 : Int) (most2 : Int) : Option Bool :=
  (slices_ContainsFunc_int_int__impl_all_1 n l0 least1 most2).bind fun r1 => some ((!r1))
def impl_HullOk_k0 {R : Type} (n : Nat) (kx0 : Option R) (kxr : Bool → Option R) (J : Int → Option R) (t6 : List (List Int)) (t7 : Int) (t10 : Int) (h9 : SHull) : Option R :=
  ix t10 t6.length (ix (0 : Int) h9.Half.length ((bif (!(decide (((t6.getD t10.toNat []).length : Int) = ((h9.Half.getD 0 []).length : Int)))) then kxr false else (impl_all n (t6.getD t10.toNat []) (0 : Int) (50 : Int)).bind fun r12 => (bif (!r12) then kxr false else J (w64 (t10 + (1 : Int)))))))
def impl_HullOk_L4 {R : Type} (n : Nat) (kx0 : Option R) (kxr : Bool → Option R) (J : Int → Option R) (t6 : List (List Int)) (t7 : Int) (t8 : Int) (h9 : SHull) : Option R :=
  (bif (decide (t8 < t7)) then impl_HullOk_k0 n kx0 kxr J t6 t7 t8 h9 else kx0)
def impl_HullOk (n : Nat) (h0 : SHull) : Option Bool :=
  (impl_in n h0.Step (1 : Int) (100 : Int)).bind fun r1 => (bif (!r1) then some (false) else (impl_in n h0.Rise (1 : Int) (20 : Int)).bind fun r2 => (bif (!r2) then some (false) else (impl_in n (h0.Half.length : Int) (2 : Int) (12 : Int)).bind fun r3 => (bif (!r3) then some (false) else ix (0 : Int) h0.Half.length ((impl_in n ((h0.Half.getD 0 []).length : Int) (2 : Int) (10 : Int)).bind fun r4 => (bif (!r4) then some (false) else loopN (fun (x : Int) J' => impl_HullOk_L4 n (some (true)) (fun t21 => some (t21)) J' h0.Half (h0.Half.length : Int) x h0) n ((0 : Int)))))))
def impl_RoomsOk_L10 {R : Type} (n : Nat) (kx2 : List (Int × Bool) → Option R) (kxr : Bool → Option R) (J : Int → List (Int × Bool) → Option R) (s28 : Int) (t29 : List SRoom) (t30 : Int) (t31 : Int) (h32 : SHull) (t33 : List (Int × Bool)) (r34 : SRoom) : Option R :=
  (bif (decide (s28 ≤ r34.Last)) then (bd (mgetI t33 s28) fun (g44 : Option Bool) => (bif (g44.getD false) then kxr false else J (w64 (s28 + (1 : Int))) (mputI t33 s28 true))) else kx2 t33)
def impl_RoomsOk_k0 {R : Type} (n : Nat) (kx0 : Option R) (kxr : Bool → Option R) (J : Int → List (Int × Bool) → Option R) (t3 : List SRoom) (t4 : Int) (t8 : Int) (h6 : SHull) (t9 : List (Int × Bool)) : Option R :=
  ix t8 t3.length ((bd (t3.getD t8.toNat dSRoom) fun (e10 : SRoom) => (bif (decide (e10.First < (0 : Int))) then kxr false else (bif (decide (e10.First > e10.Last)) then kxr false else (bif (decide (e10.Last ≥ (h6.Half.length : Int))) then kxr false else (impl_in n e10.Perm (0 : Int) (100 : Int)).bind fun r20 => (bif (!r20) then kxr false else loopN (fun (x : Int × (List (Int × Bool))) J' => impl_RoomsOk_L10 n (fun t64 => J (w64 (t8 + (1 : Int))) t64) (fun t67 => kxr t67) (fun s68 t69 => J' (s68, t69)) x.1 t3 t4 t8 h6 x.2 e10) n (e10.First, t9)))))))
def impl_RoomsOk_L5 {R : Type} (n : Nat) (kx0 : Option R) (kxr : Bool → Option R) (J : Int → List (Int × Bool) → Option R) (t3 : List SRoom) (t4 : Int) (t5 : Int) (h6 : SHull) (t7 : List (Int × Bool)) : Option R :=
  (bif (decide (t5 < t4)) then impl_RoomsOk_k0 n kx0 kxr J t3 t4 t5 h6 t7 else kx0)
def impl_RoomsOk (n : Nat) (h0 : SHull) (rooms1 : List SRoom) : Option Bool :=
  (impl_HullOk n h0).bind fun r1 => (bif (!r1) then some (false) else (bif (decide ((rooms1.length : Int) > (8 : Int))) then some (false) else loopN (fun (x : Int × (List (Int × Bool))) J' => impl_RoomsOk_L5 n (some (true)) (fun t76 => some (t76)) (fun t77 t78 => J' (t77, t78)) rooms1 (rooms1.length : Int) x.1 h0 x.2) n ((0 : Int), [])))
def impl_own_int (n : Nat) (l0 : List Int) : Option (List Int) :=
  chk (decide ((0 : Int) ≤ (l0.length : Int))) (chk (decide ((l0.length : Int) ≤ 9223372036854775807 ∧ (l0.length : Int) * (8 : Int) ≤ 281474976710656)) (chk (decide (l0.length * 8 ≤ 140737488355328)) (some (l0))))
def impl_own_int_f105 (n : Nat) (l0 : List (List Int)) : Option (List (List Int)) :=
  chk (decide ((0 : Int) ≤ (l0.length : Int))) (chk (decide ((l0.length : Int) ≤ 9223372036854775807 ∧ (l0.length : Int) * (24 : Int) ≤ 281474976710656)) (chk (decide (l0.length * 24 ≤ 140737488355328)) (some (l0))))
def impl_Flood_L5 {R : Type} (n : Nat) (kx0 : List (List Int) → Option R) (J : Int → List (List Int) → Option R) (rooms2 : List SRoom) (t3 : List (List Int)) (t4 : Int) (t5 : Int) (t6 : Int) (t7 : Int) (c8 : List (List Int)) (f9 : Int) (f10 : Int) (c11 : List (List Int)) : Option R :=
  (bif (decide (t5 < t4)) then ix t5 t3.length ((impl_own_int n (t3.getD t5.toNat [])).bind fun r15 => chk (decide ((c11 ++ [r15]).length * 24 ≤ 140737488355328)) (J (w64 (t5 + (1 : Int))) (c11 ++ [r15]))) else kx0 c11)
def impl_Flood_k0 {R : Type} (n : Nat) (kx6 : List (List Int) → Option R) (J : Int → List (List Int) → Option R) (s43 : Int) (t44 : List SRoom) (t45 : Int) (t46 : Int) (t47 : Nat) (t48 : Int) (t57 : Int) (t50 : Int) (t51 : Int) (c52 : List (List Int)) (f53 : Int) (f54 : Int) (c58 : List (List Int)) (r56 : SRoom) : Option R :=
  chk (decide (t47 < c58.length)) (ix t57 ((c58.getD t47 []).length) (chk (decide (t47 < c58.length)) (chk (decide (t57.toNat < (c58.getD t47 []).length)) (ix s43 c58.length (chk (decide (s43.toNat < c58.length)) ((bd (w64 ((100 : Int) - r56.Perm)) fun (v59 : Int) => (bd (w64 (((c58.getD t47 []).getD t57.toNat (0 : Int)) * v59)) fun (v60 : Int) => (bd (w64 (Int.tdiv v60 (100 : Int))) fun (v61 : Int) => chk (decide (s43.toNat < c58.length)) (ix t57 ((c58.getD s43.toNat []).length) (chk (decide (s43.toNat < c58.length)) (chk (decide (t57.toNat < (c58.getD s43.toNat []).length)) ((bd (c58.set s43.toNat ((c58.getD s43.toNat []).set t57.toNat v61)) fun (l62 : List (List Int)) => J (w64 (t57 + (1 : Int))) l62))))))))))))))
def impl_Flood_L17 {R : Type} (n : Nat) (kx6 : List (List Int) → Option R) (J : Int → List (List Int) → Option R) (s43 : Int) (t44 : List SRoom) (t45 : Int) (t46 : Int) (t47 : Nat) (t48 : Int) (t49 : Int) (t50 : Int) (t51 : Int) (c52 : List (List Int)) (f53 : Int) (f54 : Int) (c55 : List (List Int)) (r56 : SRoom) : Option R :=
  (bif (decide (t49 < t48)) then impl_Flood_k0 n kx6 J s43 t44 t45 t46 t47 t48 t49 t50 t51 c52 f53 f54 c55 r56 else kx6 c55)
def impl_Flood_k1 {R : Type} (n : Nat) (kx4 : List (List Int) → Option R) (J : Int → List (List Int) → Option R) (s41 : Int) (t31 : List SRoom) (t32 : Int) (t33 : Int) (t34 : Int) (t35 : Int) (c36 : List (List Int)) (laws_eqIntS : Int) (f38 : Int) (c42 : List (List Int)) (r40 : SRoom) : Option R :=
  ix s41 c42.length (chk (decide (s41.toNat < c42.length)) (chk (decide (s41.toNat < c42.length)) (loopN (fun (x : Int × List (List Int)) J' => impl_Flood_L17 n (fun c63 => J (w64 (s41 + (1 : Int))) c63) (fun t64 c65 => J' (t64, c65)) s41 t31 t32 t33 s41.toNat ((c42.getD s41.toNat []).length : Int) x.1 t34 t35 c36 laws_eqIntS f38 x.2 r40) n ((0 : Int), c42))))
def impl_Flood_L14 {R : Type} (n : Nat) (kx4 : List (List Int) → Option R) (J : Int → List (List Int) → Option R) (s30 : Int) (t31 : List SRoom) (t32 : Int) (t33 : Int) (t34 : Int) (t35 : Int) (c36 : List (List Int)) (laws_eqIntS : Int) (f38 : Int) (c39 : List (List Int)) (r40 : SRoom) : Option R :=
  (bif (decide (s30 ≤ r40.Last)) then impl_Flood_k1 n kx4 J s30 t31 t32 t33 t34 t35 c36 laws_eqIntS f38 c39 r40 else kx4 c39)
def impl_Flood_k2 {R : Type} (n : Nat) (kx2 : List (List Int) → Option R) (J : Int → List (List Int) → Option R) (t18 : List SRoom) (t19 : Int) (t27 : Int) (t21 : Int) (t22 : Int) (c23 : List (List Int)) (spec_Flood : Int) (laws_toHull : Int) (c28 : List (List Int)) : Option R :=
  ix t27 t18.length ((bd (t18.getD t27.toNat dSRoom) fun (e29 : SRoom) => loopN (fun (x : Int × List (List Int)) J' => impl_Flood_L14 n (fun c66 => J (w64 (t27 + (1 : Int))) c66) (fun s67 c68 => J' (s67, c68)) x.1 t18 t19 t27 t21 t22 c23 spec_Flood laws_toHull x.2 e29) n (e29.First, c28)))
def impl_Flood_L11 {R : Type} (n : Nat) (kx2 : List (List Int) → Option R) (J : Int → List (List Int) → Option R) (t18 : List SRoom) (t19 : Int) (t20 : Int) (t21 : Int) (t22 : Int) (c23 : List (List Int)) (spec_Flood : Int) (laws_toHull : Int) (c26 : List (List Int)) : Option R :=
  (bif (decide (t20 < t19)) then impl_Flood_k2 n kx2 J t18 t19 t20 t21 t22 c23 spec_Flood laws_toHull c26 else kx2 c26)
def impl_Flood_k3 (n : Nat)  (rooms1 : List SRoom) (h0 : SHull) : Option SHull :=
  loopN (fun (x : Int × List (List Int)) J' => impl_Flood_L5 n (fun c16 => (impl_own_int_f105 n c16).bind fun r17 => loopN (fun (x : Int × List (List Int)) J' => impl_Flood_L11 n (fun c69 => some ((⟨h0.Step, h0.Rise, c69⟩ : SHull))) (fun t70 c71 => J' (t70, c71)) rooms1 (rooms1.length : Int) x.1 (0 : Int) (0 : Int) [] h0.Step h0.Rise x.2) n ((0 : Int), r17)) (fun t72 c73 => J' (t72, c73)) rooms1 h0.Half (h0.Half.length : Int) x.1 (0 : Int) (0 : Int) [] h0.Step h0.Rise x.2) n ((0 : Int), [])
def impl_Flood (n : Nat) (h0 : SHull) (rooms1 : List SRoom) : Option SHull :=
  (impl_RoomsOk n h0 rooms1).bind fun r1 => (bif (!r1) then some ((⟨(0 : Int), (0 : Int), []⟩ : SHull)) else impl_Flood_k3 n  rooms1 h0)
def laws_eqIntS_L4 {R : Type} (n : Nat) (kx0 : Option R) (kxr : Bool → Option R) (J : Int → Option R) (a1 : List Int) (b2 : List Int) (i3 : Int) : Option R :=
  (bif (decide (i3 < (a1.length : Int))) then ix i3 a1.length (ix i3 b2.length ((bif (!(decide ((a1.getD i3.toNat (0 : Int)) = (b2.getD i3.toNat (0 : Int))))) then kxr false else J (w64 (i3 + (1 : Int)))))) else kx0)
def laws_eqIntS (n : Nat) (a0 : List Int) (b1 : List Int) : Option Bool :=
  (bif (!(decide ((a0.length : Int) = (b1.length : Int)))) then some (false) else loopN (fun (x : Int) J' => laws_eqIntS_L4 n (some (true)) (fun t9 => some (t9)) J' a0 b1 x) n ((0 : Int)))
def laws_eqIntSS_L4 {R : Type} (n : Nat) (kx0 : Option R) (kxr : Bool → Option R) (J : Int → Option R) (a1 : List (List Int)) (b2 : List (List Int)) (i3 : Int) : Option R :=
  (bif (decide (i3 < (a1.length : Int))) then ix i3 a1.length (ix i3 b2.length ((laws_eqIntS n (a1.getD i3.toNat []) (b2.getD i3.toNat [])).bind fun r7 => (bif (!r7) then kxr false else J (w64 (i3 + (1 : Int)))))) else kx0)
def laws_eqIntSS (n : Nat) (a0 : List (List Int)) (b1 : List (List Int)) : Option Bool :=
  (bif (!(decide ((a0.length : Int) = (b1.length : Int)))) then some (false) else loopN (fun (x : Int) J' => laws_eqIntSS_L4 n (some (true)) (fun t11 => some (t11)) J' a0 b1 x) n ((0 : Int)))
def laws_eqHull (n : Nat) (a0 : SHull) (b1 : SHull) : Option Bool :=
  (bif (!(decide (a0.Step = b1.Step))) then some (false) else (bif (!(decide (a0.Rise = b1.Rise))) then some (false) else (laws_eqIntSS n a0.Half b1.Half).bind fun r3 => (bif (!r3) then some (false) else some (true))))
def laws_eqRoom (n : Nat) (a0 : SRoom) (b1 : SRoom) : Option Bool :=
  (bif (!(decide (a0.First = b1.First))) then some (false) else (bif (!(decide (a0.Last = b1.Last))) then some (false) else (bif (!(decide (a0.Perm = b1.Perm))) then some (false) else some (true))))
def laws_eqRoomS_L4 {R : Type} (n : Nat) (kx0 : Option R) (kxr : Bool → Option R) (J : Int → Option R) (a1 : List SRoom) (b2 : List SRoom) (i3 : Int) : Option R :=
  (bif (decide (i3 < (a1.length : Int))) then ix i3 a1.length ((bd (a1.getD i3.toNat dSRoom) fun (e9 : SRoom) => ix i3 b2.length ((bd (b2.getD i3.toNat dSRoom) fun (e10 : SRoom) => (laws_eqRoom n e9 e10).bind fun r11 => (bif (!r11) then kxr false else J (w64 (i3 + (1 : Int)))))))) else kx0)
def laws_eqRoomS (n : Nat) (a0 : List SRoom) (b1 : List SRoom) : Option Bool :=
  (bif (!(decide ((a0.length : Int) = (b1.length : Int)))) then some (false) else loopN (fun (x : Int) J' => laws_eqRoomS_L4 n (some (true)) (fun t15 => some (t15)) J' a0 b1 x) n ((0 : Int)))
def laws_markIntS_L2 {R : Type} (n : Nat) (kx0 : Int → List Int → Option R) (J : Int → Int → List Int → Option R) (k1 : Int) (i2 : Int) (p3 : List Int) : Option R :=
  (bif (decide (i2 < (p3.length : Int))) then ix i2 p3.length (chk (decide (i2.toNat < p3.length)) (J (w64 (k1 + (1 : Int))) (w64 (i2 + (1 : Int))) (p3.set i2.toNat k1))) else kx0 k1 p3)
def laws_markIntS (n : Nat) (a0 : List Int) (k1 : Int) : Option (Int × List Int) :=
  loopN (fun (x : Int × Int × List Int) J' => laws_markIntS_L2 n (fun k7 p8 => some (k7, p8)) (fun k9 i10 p11 => J' (k9, i10, p11)) x.1 x.2.1 x.2.2) n (k1, (0 : Int), a0)
def laws_markIntSS_k0 {R : Type} (n : Nat) (kx0 : Int → List (List Int) → Option R) (J : Int → Int → List (List Int) → Option R) (k4 : Int) (i5 : Int) (p6 : List (List Int)) : Option R :=
  ix i5 p6.length (chk (decide (i5.toNat < p6.length)) (chk (decide (i5.toNat < p6.length)) ((laws_markIntS n (p6.getD i5.toNat []) k4).bind fun r7 => chk (decide (i5.toNat = i5.toNat)) (chk (decide (i5.toNat < p6.length)) (J r7.1 (w64 (i5 + (1 : Int))) (p6.set i5.toNat r7.2))))))
def laws_markIntSS_L2 {R : Type} (n : Nat) (kx0 : Int → List (List Int) → Option R) (J : Int → Int → List (List Int) → Option R) (k1 : Int) (i2 : Int) (p3 : List (List Int)) : Option R :=
  (bif (decide (i2 < (p3.length : Int))) then laws_markIntSS_k0 n kx0 J k1 i2 p3 else kx0 k1 p3)
def laws_markIntSS (n : Nat) (a0 : List (List Int)) (k1 : Int) : Option (Int × List (List Int)) :=
  loopN (fun (x : Int × Int × List (List Int)) J' => laws_markIntSS_L2 n (fun k8 p9 => some (k8, p9)) (fun k10 i11 p12 => J' (k10, i11, p12)) x.1 x.2.1 x.2.2) n (k1, (0 : Int), a0)
def laws_markHull (n : Nat) (a0 : SHull) (k1 : Int) : Option (Int × List (List Int)) :=
  (laws_markIntSS n a0.Half k1).bind fun r1 => some (r1.1, r1.2)
def laws_markRoomS_k0 {R : Type} (n : Nat) (kx0 : Int → List SRoom → Option R) (J : Int → Int → List SRoom → Option R) (k4 : Int) (i5 : Int) (p6 : List SRoom) : Option R :=
  ix i5 p6.length (chk (decide (i5.toNat < p6.length)) ((bd (p6.getD i5.toNat dSRoom) fun (e7 : SRoom) => (bd (p6.set i5.toNat (⟨k4, e7.Last, e7.Perm⟩ : SRoom)) fun (l8 : List SRoom) => ix i5 l8.length (chk (decide (i5.toNat < l8.length)) ((bd (l8.getD i5.toNat dSRoom) fun (e9 : SRoom) => (bd (l8.set i5.toNat (⟨e9.First, (w64 (k4 + (1 : Int))), e9.Perm⟩ : SRoom)) fun (l10 : List SRoom) => (bd (w64 ((w64 (k4 + (1 : Int))) + (1 : Int))) fun (v11 : Int) => ix i5 l10.length (chk (decide (i5.toNat < l10.length)) ((bd (l10.getD i5.toNat dSRoom) fun (e12 : SRoom) => (bd (l10.set i5.toNat (⟨e12.First, e12.Last, v11⟩ : SRoom)) fun (l13 : List SRoom) => J (w64 (v11 + (1 : Int))) (w64 (i5 + (1 : Int))) l13)))))))))))))
def laws_markRoomS_L2 {R : Type} (n : Nat) (kx0 : Int → List SRoom → Option R) (J : Int → Int → List SRoom → Option R) (k1 : Int) (i2 : Int) (p3 : List SRoom) : Option R :=
  (bif (decide (i2 < (p3.length : Int))) then laws_markRoomS_k0 n kx0 J k1 i2 p3 else kx0 k1 p3)
def laws_markRoomS (n : Nat) (a0 : List SRoom) (k1 : Int) : Option (Int × List SRoom) :=
  loopN (fun (x : Int × Int × List SRoom) J' => laws_markRoomS_L2 n (fun k14 p15 => some (k14, p15)) (fun k16 i17 p18 => J' (k16, i17, p18)) x.1 x.2.1 x.2.2) n (k1, (0 : Int), a0)
def laws_heldIntS_L2 {R : Type} (n : Nat) (kx0 : Int → Option R) (kxr : Int → Option R) (J : Int → Int → Option R) (a1 : List Int) (k2 : Int) (i3 : Int) : Option R :=
  (bif (decide (i3 < (a1.length : Int))) then ix i3 a1.length ((bif (!(decide ((a1.getD i3.toNat (0 : Int)) = k2))) then kxr (-1 : Int) else J (w64 (k2 + (1 : Int))) (w64 (i3 + (1 : Int))))) else kx0 k2)
def laws_heldIntS (n : Nat) (a0 : List Int) (k1 : Int) : Option Int :=
  loopN (fun (x : Int × Int) J' => laws_heldIntS_L2 n (fun k16 => some (k16)) (fun t17 => some (t17)) (fun k18 i19 => J' (k18, i19)) a0 x.1 x.2) n (k1, (0 : Int))
def laws_heldIntSS_L2 {R : Type} (n : Nat) (kx0 : Int → Option R) (kxr : Int → Option R) (J : Int → Int → Option R) (a1 : List (List Int)) (k2 : Int) (i3 : Int) : Option R :=
  (bif (decide (i3 < (a1.length : Int))) then ix i3 a1.length ((laws_heldIntS n (a1.getD i3.toNat []) k2).bind fun r9 => (bif (decide (r9 < (0 : Int))) then kxr (-1 : Int) else J r9 (w64 (i3 + (1 : Int))))) else kx0 k2)
def laws_heldIntSS (n : Nat) (a0 : List (List Int)) (k1 : Int) : Option Int :=
  loopN (fun (x : Int × Int) J' => laws_heldIntSS_L2 n (fun k12 => some (k12)) (fun t13 => some (t13)) (fun k14 i15 => J' (k14, i15)) a0 x.1 x.2) n (k1, (0 : Int))
def laws_heldHull (n : Nat) (a0 : SHull) (k1 : Int) : Option Int :=
  (laws_heldIntSS n a0.Half k1).bind fun r1 => (bif (decide (r1 < (0 : Int))) then some ((-1 : Int)) else some (r1))
def laws_FnExactFlood_k0 (n : Nat)  (aRooms1 : List SRoom) (m77 : Int) (aH0 : SHull) (w078 : Int) (w079 : Int) (t80 : List (List Int)) (g081 : Int) (g082 : Int) (t83 : List (List Int)) : Option Bool :=
  (laws_toHull n aH0).bind fun r84 => (laws_toRoomS n aRooms1).bind fun r85 => (impl_Flood n r84 r85).bind fun r86 => (laws_eqHull n r86 (⟨w078, w079, t80⟩ : SHull)).bind fun r87 => (bif (!r87) then some (false) else (laws_heldHull n (⟨g081, g082, t83⟩ : SHull) (1 : Int)).bind fun r95 => (bif (decide (r95 < (0 : Int))) then some (false) else (bif (!(decide (r95 = m77))) then some (false) else some (true))))
def laws_FnExactFlood_k1 (n : Nat)  (aRooms1 : List SRoom) (aH0 : SHull) (w061 : Int) (w062 : Int) (t63 : List (List Int)) (g064 : Int) (g065 : Int) (t66 : List (List Int)) : Option Bool :=
  (laws_markHull n (⟨g064, g065, t66⟩ : SHull) (1 : Int)).bind fun r67 => (laws_heldHull n (⟨g064, g065, r67.2⟩ : SHull) (1 : Int)).bind fun r68 => (bif (decide (r68 < (0 : Int))) then some (false) else (bif (!(decide (r68 = r67.1))) then some (false) else laws_FnExactFlood_k0 n  aRooms1 r67.1 aH0 w061 w062 t63 g064 g065 r67.2))
def laws_FnExactFlood_k2 (n : Nat)  (aRooms1 : List SRoom) (aH0 : SHull) (w035 : Int) (w036 : Int) (t37 : List (List Int)) (x038 : Int) (x039 : Int) (t40 : List (List Int)) (t41 : List SRoom) (g042 : Int) (g043 : Int) (t44 : List (List Int)) : Option Bool :=
  (laws_markHull n (⟨x038, x039, t40⟩ : SHull) (1 : Int)).bind fun r45 => (laws_markRoomS n t41 r45.1).bind fun r46 => (bif (decide (r46.1 < (0 : Int))) then some (false) else (laws_eqHull n (⟨g042, g043, t44⟩ : SHull) (⟨w035, w036, t37⟩ : SHull)).bind fun r53 => (bif (!r53) then some (false) else laws_FnExactFlood_k1 n  aRooms1 aH0 w035 w036 t37 g042 g043 t44))
def laws_FnExactFlood_k3 (n : Nat)  (aRooms1 : List SRoom) (aH0 : SHull) (w011 : Int) (w012 : Int) (t13 : List (List Int)) (x014 : Int) (x015 : Int) (t16 : List (List Int)) (t17 : List SRoom) (g018 : Int) (g019 : Int) (t20 : List (List Int)) : Option Bool :=
  (laws_toHull n aH0).bind fun r21 => (laws_eqHull n (⟨x014, x015, t16⟩ : SHull) r21).bind fun r22 => (bif (!r22) then some (false) else (laws_toRoomS n aRooms1).bind fun r111 => (laws_eqRoomS n t17 r111).bind fun r112 => (bif (!r112) then some (false) else laws_FnExactFlood_k2 n  aRooms1 aH0 w011 w012 t13 x014 x015 t16 t17 g018 g019 t20))
def laws_FnExactFlood_k4 (n : Nat)  (aRooms1 : List SRoom) (aH0 : SHull) : Option Bool :=
  (laws_toHull n aH0).bind fun r4 => (laws_toRoomS n aRooms1).bind fun r5 => (spec_Flood n r4 r5).bind fun r6 => (laws_toHull n aH0).bind fun r7 => (laws_toRoomS n aRooms1).bind fun r8 => (impl_Flood n r7 r8).bind fun r9 => (laws_eqHull n r9 r6).bind fun r10 => (bif (!r10) then some (false) else laws_FnExactFlood_k3 n  aRooms1 aH0 r6.Step r6.Rise r6.Half r7.Step r7.Rise r7.Half r8 r9.Step r9.Rise r9.Half)
def laws_FnExactFlood (n : Nat) (aH0 : SHull) (aRooms1 : List SRoom) : Option Bool :=
  (laws_szHull n aH0 (1048576 : Int)).bind fun r1 => (bif (decide (r1 < (0 : Int))) then some (true) else (laws_szRoomS n aRooms1 r1).bind fun r123 => (bif (decide (r123 < (0 : Int))) then some (true) else laws_FnExactFlood_k4 n  aRooms1 aH0))
def rng (a b x : Int) : Prop := a ≤ x ∧ x ≤ b
def wfSHull (x : SHull) : Prop := rng (-9223372036854775808) 9223372036854775807 x.Step ∧ rng (-9223372036854775808) 9223372036854775807 x.Rise ∧ (x.Half.length ≤ 9223372036854775807 ∧ ∀ y ∈ x.Half, (y.length ≤ 9223372036854775807 ∧ ∀ z ∈ y, rng (-9223372036854775808) 9223372036854775807 z))
def wfSRoom (x : SRoom) : Prop := rng (-9223372036854775808) 9223372036854775807 x.First ∧ rng (-9223372036854775808) 9223372036854775807 x.Last ∧ rng (-9223372036854775808) 9223372036854775807 x.Perm
end Go.Sm
end

section
set_option linter.unusedSimpArgs false
set_option linter.deprecated false
set_option linter.unusedSectionVars false
set_option linter.unusedVariables false
namespace Go.Sm
/-! ### Of the words that printed functions are made of -/
theorem w64_id {x : Int} (h1 : -9223372036854775808 ≤ x) (h2 : x ≤ 9223372036854775807) : w64 x = x := by
  show (let m := x % (2 ^ 64 : Int); if (true && decide ((2 : Int) ^ 63 ≤ m)) = true then m - 2 ^ 64 else m) = x
  simp only [Bool.true_and, decide_eq_true_eq]
  split <;> omega
theorem w64_rng (x : Int) : -9223372036854775808 ≤ w64 x ∧ w64 x ≤ 9223372036854775807 := by
  show -9223372036854775808 ≤ (let m := x % (2 ^ 64 : Int); if (true && decide ((2 : Int) ^ 63 ≤ m)) = true then m - 2 ^ 64 else m) ∧ (let m := x % (2 ^ 64 : Int); if (true && decide ((2 : Int) ^ 63 ≤ m)) = true then m - 2 ^ 64 else m) ≤ 9223372036854775807
  simp only [Bool.true_and, decide_eq_true_eq]
  split <;> omega
theorem chk_of {R : Type} {b : Bool} {x : Option R} (h : b = true) : chk b x = x := by rw [h]; rfl
theorem chk_true {R : Type} {x : Option R} : chk true x = x := rfl
theorem chk_dec {R : Type} {p : Prop} [Decidable p] {x : Option R} (h : p) : chk (decide p) x = x := chk_of (decide_eq_true h)
theorem ix_of {R : Type} {i : Int} {len : Nat} {x : Option R} (h0 : 0 ≤ i) (h1 : i < (len : Int)) : ix i len x = x := by
  unfold ix
  rw [decide_eq_true h0, decide_eq_true h1]
  rfl
theorem ix_nat {R : Type} {i len : Nat} {x : Option R} (h1 : i < len) : ix (i : Int) len x = x := ix_of (by omega) (by omega)
theorem bif_dec {α : Type} {p : Prop} [Decidable p] {x y : α} : (bif decide p then x else y) = if p then x else y := by
  by_cases h : p <;> simp [h]
theorem bif_not {α : Type} {b : Bool} {x y : α} : (bif !b then x else y) = bif b then y else x := by cases b <;> rfl
theorem bif_and {α : Type} {a b : Bool} {x y : α} : (bif a && b then x else y) = bif a then (bif b then x else y) else y := by cases a <;> rfl
theorem loopN_succ {X R : Type} (b : X → (X → Option R) → Option R) (m : Nat) (x : X) : loopN b (m + 1) x = b x (loopN b m) := rfl
/-- What holds of a loop: by what is left to go. -/
theorem loopN_ind {X R : Type} {b : X → (X → Option R) → Option R} (μ : X → Nat) (I : X → Prop) (Q : X → Option R → Prop)
    (h : ∀ x J, I x → (∀ y, I y → μ y < μ x → Q y (J y)) → Q x (b x J)) : ∀ n x, I x → μ x < n → Q x (loopN b n x)
  | 0, x, hi, hm => absurd hm (Nat.not_lt_zero _)
  | n + 1, x, hi, hm => h x (loopN b n) hi fun y hy hl => loopN_ind μ I Q h n y hy (by omega)
theorem getD_eq {α : Type} {l : List α} {i : Nat} {d : α} (h : i < l.length) : l.getD i d = l[i] := by
  simp [List.getD, h]
theorem w64_succ {k : Nat} (h : k < 9223372036854775807) : w64 ((k : Int) + 1) = ((k + 1 : Nat) : Int) := by
  rw [w64_id (by omega) (by omega)]
  rfl
theorem take_succ_getD {α : Type} {l : List α} {i : Nat} {d : α} (h : i < l.length) : l.take (i + 1) = l.take i ++ [l.getD i d] := by
  rw [List.take_succ, getD_eq h, List.getElem?_eq_getElem h]
  rfl
theorem drop_getD {α : Type} {l : List α} {i : Nat} {d : α} (h : i < l.length) : l.drop i = l.getD i d :: l.drop (i + 1) := by
  rw [getD_eq h]
  exact List.drop_eq_getElem_cons h
theorem bd_eq {α β : Type} (e : α) (f : α → β) : bd e f = f e := rfl
theorem bd_set {α β : Type} {Q : β → Prop} {F : List α → β} {p : List α} {i : Nat} {x : α} (h : ∀ l : List α, l.length = p.length → Q (F l)) : Q (bd (p.set i x) F) := h _ (by simp)
theorem bd_is {α β : Type} {Q : β → Prop} {F : α → β} {e : α} (h : ∀ v : α, v = e → Q (F v)) : Q (bd e F) := h _ rfl
theorem bd_val {α β : Type} {Q : β → Prop} {F : α → β} {e : α} (h : ∀ v : α, Q (F v)) : Q (bd e F) := h _
theorem chk_q {R : Type} {Q : Option R → Prop} {b : Bool} {x : Option R} (h : b = true) (hx : Q x) : Q (chk b x) := by rw [chk_of h]; exact hx
theorem ix_q {R : Type} {Q : Option R → Prop} {i : Int} {len : Nat} {x : Option R} (h0 : 0 ≤ i) (h1 : i < (len : Int)) (hx : Q x) : Q (ix i len x) := by rw [ix_of h0 h1]; exact hx
theorem bd_upd {α β : Type} {Q : β → Prop} {F : List α → β} {p : List α} {i : Nat} {x d : α} (hi : i < p.length) (h : ∀ l : List α, l.length = p.length → l.getD i d = x → (∀ j, j ≠ i → l.getD j d = p.getD j d) → Q (F l)) : Q (bd (p.set i x) F) :=
  h _ (by simp) (by simp [List.getD, hi]) (fun j hj => by simp [List.getD, List.getElem?_set, Ne.symm hj])
/-- A list written from the front. -/
theorem set_take {α : Type} {a : List α} {d : α} {m k : Nat} (h : k < a.length) (hm : m = a.length := by rfl) : (a.take k ++ (List.replicate m d).drop k).set k (a.getD k d) = a.take (k + 1) ++ (List.replicate m d).drop (k + 1) := by
  subst hm
  have h1 : (a.take k).length = k := by simp; omega
  rw [List.set_append_right _ _ (by omega), h1, Nat.sub_self, take_succ_getD h, List.append_assoc]
  congr 1
  rw [List.drop_eq_getElem_cons (by simp; exact h)]
  rfl
/-! ### Loops over 0 .. len, by what is left -/
/-- Steps k, k+1, .. told one after the other; J: what comes behind a step. -/
def forK {S R : Type} (step : Nat → S → (S → Option R) → Option R) (fin : S → Option R) : Nat → Nat → S → Option R
  | 0, _, s => fin s
  | m + 1, k, s => step k s fun s' => forK step fin m (k + 1) s'
theorem loop_forK {X S R : Type} {b : X → (X → Option R) → Option R} {enc : Nat → S → X} {len : Nat} {step : Nat → S → (S → Option R) → Option R} {fin : S → Option R} (I : Nat → S → Prop)
    (hstep : ∀ k s J J', k < len → I k s → (∀ s', I (k + 1) s' → J (enc (k + 1) s') = J' s') → b (enc k s) J = step k s J') (hfin : ∀ s J, I len s → b (enc len s) J = fin s) :
    ∀ m k s n, k + m = len → m < n → I k s → loopN b n (enc k s) = forK step fin m k s
  | 0, k, s, 0, _, h, _ => absurd h (Nat.lt_irrefl _)
  | 0, k, s, n + 1, hk, _, hi => by
    have hk : k = len := by omega
    subst hk
    exact hfin s _ hi
  | m + 1, k, s, 0, _, h, _ => absurd h (Nat.not_lt_zero _)
  | m + 1, k, s, n + 1, hk, hn, hi => by
    show b (enc k s) (loopN b n) = step k s fun s' => forK step fin m (k + 1) s'
    exact hstep k s _ _ (by omega) hi fun s' hi' => loop_forK I hstep hfin m (k + 1) s' n (by omega) (by omega) hi'
/-- The first k at which f answers; at none: z. -/
def scanK {R : Type} (f : Nat → Option (Option R)) (z : Option R) : Nat → Nat → Option R
  | 0, _ => z
  | m + 1, k => match f k with
    | some r => r
    | none => scanK f z m (k + 1)
theorem loop_scan {X R : Type} {b : X → (X → Option R) → Option R} {enc : Nat → X} {len : Nat} {f : Nat → Option (Option R)} {z : Option R}
    (hstep : ∀ k J, k < len → b (enc k) J = match f k with | some r => r | none => J (enc (k + 1))) (hfin : ∀ J, b (enc len) J = z) :
    ∀ m k n, k + m = len → m < n → loopN b n (enc k) = scanK f z m k
  | 0, k, 0, _, h => absurd h (Nat.lt_irrefl _)
  | 0, k, n + 1, hk, _ => by
    have hk : k = len := by omega
    subst hk
    exact hfin _
  | m + 1, k, 0, _, h => absurd h (Nat.not_lt_zero _)
  | m + 1, k, n + 1, hk, hn => by
    show b (enc k) (loopN b n) = _
    rw [hstep k _ (by omega)]
    unfold scanK
    cases f k with
    | some r => rfl
    | none => exact loop_scan hstep hfin m (k + 1) n (by omega) (by omega)
/-- Is p so of all of k, .. k + m - 1? -/
theorem scan_all {R : Type} {p : Nat → Bool} {r z : Option R} : ∀ m k, scanK (fun k => bif p k then none else some r) z m k = bif (List.range' k m).all p then z else r
  | 0, k => rfl
  | m + 1, k => by
    rw [scanK, List.range'_succ, List.all_cons]
    cases h : p k with
    | true => simp only [cond_true, Bool.true_and]; exact scan_all m (k + 1)
    | false => rfl
theorem scan_any {R : Type} {p : Nat → Bool} {r z : Option R} : ∀ m k, scanK (fun k => bif p k then some r else none) z m k = bif (List.range' k m).any p then r else z
  | 0, k => rfl
  | m + 1, k => by
    rw [scanK, List.range'_succ, List.any_cons]
    cases h : p k with
    | false => simp only [cond_false, Bool.false_or]; exact scan_any m (k + 1)
    | true => rfl
theorem mgetI_mputI {β : Type} (l : List (Int × β)) (n m : Int) (v : β) : mgetI (mputI l n v) m = if m = n then some v else mgetI l m := by
  unfold mgetI mputI
  induction l with
  | nil =>
    by_cases h : m = n <;> simp [h]
  | cons a l ih =>
    rw [List.findIdx?_cons]
    by_cases h : n = a.1
    · simp only [h, decide_true, if_true, Option.elim_some, List.set_cons_zero, List.find?_cons]
      by_cases h2 : m = a.1
      · simp [h2]
      · simp [h2]
    · simp only [h, decide_false, Bool.false_eq_true, if_false]
      cases hf : l.findIdx? (fun e => decide (n = e.1)) with
      | none =>
        rw [hf] at ih
        simp only [Option.elim_none] at ih
        simp only [Option.map_none, Option.elim_none, List.cons_append, List.find?_cons]
        by_cases h2 : m = a.1
        · have : m ≠ n := fun e => h (e ▸ h2)
          simp [h2]
          simp [h2] at this
          simp [this]
        · simp only [h2, decide_false]
          exact ih
      | some i =>
        rw [hf] at ih
        simp only [Option.elim_some] at ih
        simp only [Option.map_some, Option.elim_some, List.set_cons_succ, List.find?_cons]
        by_cases h2 : m = a.1
        · have : m ≠ n := fun e => h (e ▸ h2)
          simp [h2]
          simp [h2] at this
          simp [this]
        · simp only [h2, decide_false]
          exact ih
theorem mgetI_nil {β : Type} (m : Int) : mgetI ([] : List (Int × β)) m = none := rfl
/-! ### Chains of tests -/
theorem bif_and' {α : Type} {a b : Bool} {x y : α} : (bif a then (bif b then x else y) else y) = bif a && b then x else y := by cases a <;> rfl
theorem bif_or' {α : Type} {a b : Bool} {x y : α} : (bif a then y else (bif b then x else y)) = bif !a && b then x else y := by cases a <;> rfl
theorem bif_and2 {α : Type} {a b : Bool} {x y : α} : (bif a then (bif b then y else x) else y) = bif a && !b then x else y := by cases a <;> cases b <;> rfl
theorem bif_or2 {α : Type} {a b : Bool} {x y : α} : (bif a then y else (bif b then y else x)) = bif !a && !b then x else y := by cases a <;> cases b <;> rfl
theorem bif_some {α β : Type} {a : Bool} {x y : α} {f : α → Option β} : (bif a then some x else some y).bind f = bif a then f x else f y := by cases a <;> rfl
theorem bif_tf {a : Bool} : (bif a then some true else some false) = some a := by cases a <;> rfl
theorem bif_ft {a : Bool} : (bif a then some false else some true) = some (!a) := by cases a <;> rfl
theorem bif_sf {a b : Bool} : (bif a then some b else some false) = some (a && b) := by cases a <;> rfl
theorem all_range_succ {p : Nat → Bool} {k : Nat} : (List.range (k + 1)).all p = ((List.range k).all p && p k) := by
  rw [List.range_succ, List.all_append]
  simp
theorem any_range_succ {p : Nat → Bool} {k : Nat} : (List.range (k + 1)).any p = ((List.range k).any p || p k) := by
  rw [List.range_succ, List.any_append]
  simp
theorem all_range_not {p : Nat → Bool} {k m : Nat} (hk : k < m) (h : p k = false) : (List.range m).all p = false := by
  rw [Bool.eq_false_iff]
  intro e
  rw [List.all_eq_true] at e
  rw [e k (List.mem_range.2 hk)] at h
  cases h
theorem any_range_of {p : Nat → Bool} {k m : Nat} (hk : k < m) (h : p k = true) : (List.range m).any p = true := by
  rw [List.any_eq_true]
  exact ⟨k, List.mem_range.2 hk, h⟩
/-- A loop that looks at k = 0, 1, .. and leaves at the first that is not so. -/
theorem loop_all {R : Type} {b : Int → (Int → Option R) → Option R} {len : Nat} {p : Nat → Bool} {no yes : Option R} (hlen : len ≤ 9223372036854775807)
    (hstep : ∀ (k : Nat) (J : Int → Option R), k < len → (∀ j, j < k → p j = true) → b (k : Int) J = bif p k then J ((k + 1 : Nat) : Int) else no) (hfin : ∀ J, (∀ j, j < len → p j = true) → b (len : Int) J = yes) {n : Nat} (hn : len < n) :
    loopN b n (0 : Int) = bif (List.range len).all p then yes else no := by
  refine loopN_ind (fun x => len - x.toNat) (fun x => ∃ k : Nat, k ≤ len ∧ x = (k : Int) ∧ (List.range k).all p = true) (fun x r => r = bif (List.range len).all p then yes else no) ?_ n _ ⟨0, by omega, rfl, rfl⟩ (by simp; omega)
  rintro _ J ⟨k, hk, rfl, hb⟩ ih
  have hb' : ∀ j, j < k → p j = true := fun j hj => List.all_eq_true.1 hb j (List.mem_range.2 hj)
  by_cases h : k < len
  · rw [hstep k J h hb']
    cases hp : p k with
    | true => exact ih _ ⟨k + 1, h, rfl, by rw [all_range_succ, hb, hp]; rfl⟩ (by simp; omega)
    | false => rw [all_range_not h hp]; rfl
  · have : k = len := by omega
    subst this
    rw [hfin _ hb', hb]
    rfl
/-- The same, a state turned on the way (its invariant: I). -/
theorem loop_allS {S R : Type} {X : Type} {enc : Int → S → X} {b : X → (X → Option R) → Option R} {len : Nat} {p : Nat → Bool} {I : Nat → S → Prop} {no yes : Option R}
    (hstep : ∀ (k : Nat) (s : S) (J : X → Option R), k < len → I k s → (∀ j, j < k → p j = true) → ∃ s', (p k = true → I (k + 1) s') ∧ b (enc (k : Int) s) J = bif p k then J (enc ((k + 1 : Nat) : Int) s') else no) (hfin : ∀ s J, I len s → (∀ j, j < len → p j = true) → b (enc (len : Int) s) J = yes) {n : Nat} (hn : len < n) {s0 : S} (h0 : I 0 s0) :
    loopN b n (enc (0 : Int) s0) = bif (List.range len).all p then yes else no := by
  have key : ∀ m (k : Nat) (s : S) n, k + m = len → m < n → I k s → (List.range k).all p = true → loopN b n (enc (k : Int) s) = bif (List.range len).all p then yes else no := by
    intro m
    induction m with
    | zero =>
      intro k s n hk hn hi hb
      have hb' : ∀ j, j < k → p j = true := fun j hj => List.all_eq_true.1 hb j (List.mem_range.2 hj)
      have hk : k = len := by omega
      subst hk
      cases n with
      | zero => omega
      | succ n => rw [loopN_succ, hfin s _ hi hb', hb]; rfl
    | succ m ih =>
      intro k s n hk hn hi hb
      have hb' : ∀ j, j < k → p j = true := fun j hj => List.all_eq_true.1 hb j (List.mem_range.2 hj)
      cases n with
      | zero => omega
      | succ n =>
        rw [loopN_succ]
        obtain ⟨s', h1, h2⟩ := hstep k s (loopN b n) (by omega) hi hb'
        rw [h2]
        cases hp : p k with
        | true => exact ih (k + 1) s' n (by omega) (by omega) (h1 hp) (by rw [all_range_succ, hb, hp]; rfl)
        | false => rw [all_range_not (by omega : k < len) hp]; rfl
  exact key len 0 s0 n (by omega) hn h0 rfl
/-- A loop over 0 .. len that never leaves early; its state: I. -/
theorem loop_runS {S R : Type} {X : Type} {enc : Int → S → X} {b : X → (X → Option R) → Option R} {len : Nat} {I : Nat → S → Prop} {Q : Option R → Prop}
    (hstep : ∀ (k : Nat) (s : S) (J : X → Option R), k < len → I k s → ∃ s', I (k + 1) s' ∧ b (enc (k : Int) s) J = J (enc ((k + 1 : Nat) : Int) s')) (hfin : ∀ s J, I len s → Q (b (enc (len : Int) s) J)) {n : Nat} (hn : len < n) {s0 : S} (h0 : I 0 s0) :
    Q (loopN b n (enc (0 : Int) s0)) := by
  have key : ∀ m (k : Nat) (s : S) n, k + m = len → m < n → I k s → Q (loopN b n (enc (k : Int) s)) := by
    intro m
    induction m with
    | zero =>
      intro k s n hk hn hi
      have hk : k = len := by omega
      subst hk
      cases n with
      | zero => omega
      | succ n => rw [loopN_succ]; exact hfin s _ hi
    | succ m ih =>
      intro k s n hk hn hi
      cases n with
      | zero => omega
      | succ n =>
        rw [loopN_succ]
        obtain ⟨s', h1, h2⟩ := hstep k s (loopN b n) (by omega) hi
        rw [h2]
        exact ih (k + 1) s' n (by omega) (by omega) h1
  exact key len 0 s0 n (by omega) hn h0
/-! ### Sums over lists -/
def sumOf {α : Type} (f : α → Nat) : List α → Nat
  | [] => 0
  | a :: l => f a + sumOf f l
theorem sumOf_append {α : Type} (f : α → Nat) : ∀ a b : List α, sumOf f (a ++ b) = sumOf f a + sumOf f b
  | [], b => by simp [sumOf]
  | x :: a, b => by simp only [List.cons_append, sumOf, sumOf_append f a b]; omega
theorem sumOf_take_succ {α : Type} {f : α → Nat} {l : List α} {k : Nat} {d : α} (h : k < l.length) : sumOf f (l.take (k + 1)) = sumOf f (l.take k) + f (l.getD k d) := by
  rw [take_succ_getD (d := d) h, sumOf_append]
  simp [sumOf]
theorem sumOf_take_le {α : Type} (f : α → Nat) (l : List α) (k : Nat) : sumOf f (l.take k) ≤ sumOf f l := by
  have := sumOf_append f (l.take k) (l.drop k)
  rw [List.take_append_drop] at this
  omega
theorem sumOf_mem {α : Type} {f : α → Nat} {l : List α} {k : Nat} {d : α} (h : k < l.length) : f (l.getD k d) ≤ sumOf f l := by
  have h1 := sumOf_take_succ (f := f) (d := d) h
  have h2 := sumOf_take_le f l (k + 1)
  omega
theorem sumOf_lin {α : Type} {f g : α → Nat} {c s : Nat} (h : ∀ y, f y ≤ c * g y + s) : ∀ l : List α, sumOf f l ≤ c * sumOf g l + s * l.length
  | [] => by simp [sumOf]
  | a :: l => by
    have h1 := h a
    have h2 := sumOf_lin h l
    simp only [sumOf, List.length_cons, Nat.mul_add, Nat.mul_succ]
    omega
theorem sumOf_const {α : Type} (c : Nat) : ∀ l : List α, sumOf (fun _ => c) l = c * l.length
  | [] => by simp [sumOf]
  | a :: l => by simp only [sumOf, sumOf_const c l, List.length_cons, Nat.mul_succ]; omega
theorem getD_set {α : Type} {l : List α} {k : Nat} {x d : α} (h : k < l.length) : (l.set k x).getD k d = x := by simp [List.getD, h]
theorem getD_set_ne {α : Type} {l : List α} {k j : Nat} {x d : α} (h : j ≠ k) : (l.set k x).getD j d = l.getD j d := by simp [List.getD, List.getElem?_set, Ne.symm h]
theorem getD_mem {α : Type} {l : List α} {k : Nat} {d : α} (h : k < l.length) : l.getD k d ∈ l := by rw [getD_eq h]; exact List.getElem_mem h
theorem take_drop_set {α : Type} {a : List α} {d : α} {m k : Nat} {x : α} (h : k < a.length) (hm : m = a.length) (hx : x = a.getD k d) : (a.take k ++ (List.replicate m d).drop k).set k x = a.take (k + 1) ++ (List.replicate m d).drop (k + 1) := by
  subst hx
  exact set_take h hm
/-! ### The first that is so -/
def idxOf (p : Nat → Bool) (m : Nat) : Int := match (List.range m).find? p with
  | some k => (k : Int)
  | none => -1
theorem find_range_none {p : Nat → Bool} {m : Nat} (h : ∀ j, j < m → p j = false) : (List.range m).find? p = none := by
  rw [List.find?_eq_none]
  intro x hx
  rw [h x (List.mem_range.1 hx)]
  simp
theorem find_range_some {p : Nat → Bool} {m k : Nat} (hk : k < m) (hp : p k = true) (h : ∀ j, j < k → p j = false) : (List.range m).find? p = some k := by
  have e : m = k + (m - k) := by omega
  rw [e, List.range_add, List.find?_append, find_range_none h, Option.none_or]
  obtain ⟨r, hr⟩ : ∃ r, m - k = r + 1 := ⟨m - k - 1, by omega⟩
  rw [hr, List.range_succ_eq_map]
  simp [hp]
theorem idxOf_ge (p : Nat → Bool) (m : Nat) : decide (idxOf p m ≥ 0) = (List.range m).any p := by
  unfold idxOf
  cases h : (List.range m).find? p with
  | none =>
    rw [List.find?_eq_none] at h
    rw [show (List.range m).any p = false from by rw [List.any_eq_false]; exact h]
    rfl
  | some k =>
    have h1 := List.find?_some h
    rw [show (List.range m).any p = true from List.any_eq_true.2 ⟨k, List.mem_of_find?_eq_some h, h1⟩]
    exact decide_eq_true (by show (0 : Int) ≤ (k : Int); omega)
theorem idxOf_lt (p : Nat → Bool) (m : Nat) : decide (idxOf p m < 0) = !(List.range m).any p := by
  rw [← idxOf_ge]
  by_cases h : idxOf p m < 0
  · rw [decide_eq_true h, decide_eq_false (by omega)]; rfl
  · rw [decide_eq_false h, decide_eq_true (by omega)]; rfl
theorem find_range (p : Nat → Bool) : ∀ m, ((List.range m).find? p = none ∧ ∀ j, j < m → p j = false) ∨ ∃ k, (List.range m).find? p = some k ∧ k < m ∧ p k = true ∧ ∀ j, j < k → p j = false
  | 0 => .inl ⟨rfl, fun j hj => absurd hj (Nat.not_lt_zero _)⟩
  | m + 1 => by
    rcases find_range p m with ⟨h1, h2⟩ | ⟨k, h1, h2, h3, h4⟩
    · cases hp : p m with
      | true => exact .inr ⟨m, find_range_some (by omega) hp h2, by omega, hp, h2⟩
      | false =>
        have : ∀ j, j < m + 1 → p j = false := fun j hj => by
          by_cases e : j = m
          · rw [e]; exact hp
          · exact h2 j (by omega)
        exact .inl ⟨find_range_none this, this⟩
    · exact .inr ⟨k, find_range_some (by omega) h3 h4, by omega, h3, h4⟩
theorem idxOf_spec (p : Nat → Bool) (m : Nat) : (idxOf p m = -1 ∧ ∀ j, j < m → p j = false) ∨ ∃ k : Nat, idxOf p m = (k : Int) ∧ k < m ∧ p k = true ∧ ∀ j, j < k → p j = false := by
  unfold idxOf
  rcases find_range p m with ⟨h1, h2⟩ | ⟨k, h1, h2, h3, h4⟩
  · rw [h1]; exact .inl ⟨rfl, h2⟩
  · rw [h1]; exact .inr ⟨k, rfl, h2, h3, h4⟩
/-- A loop that looks at k = 0, 1, .. and leaves at the first that is so. -/
theorem loop_find {R : Type} {b : Int → (Int → Option R) → Option R} {len : Nat} {p : Nat → Bool} {yes : Nat → Option R} {no : Option R} (hlen : len ≤ 9223372036854775807)
    (hstep : ∀ (k : Nat) (J : Int → Option R), k < len → (∀ j, j < k → p j = false) → b (k : Int) J = bif p k then yes k else J ((k + 1 : Nat) : Int)) (hfin : ∀ J, (∀ j, j < len → p j = false) → b (len : Int) J = no) {n : Nat} (hn : len < n) :
    loopN b n (0 : Int) = match (List.range len).find? p with | some k => yes k | none => no := by
  refine loopN_ind (fun x => len - x.toNat) (fun x => ∃ k : Nat, k ≤ len ∧ x = (k : Int) ∧ ∀ j, j < k → p j = false) (fun x r => r = match (List.range len).find? p with | some k => yes k | none => no) ?_ n _ ⟨0, by omega, rfl, fun j hj => absurd hj (Nat.not_lt_zero _)⟩ (by simp; omega)
  rintro _ J ⟨k, hk, rfl, hb⟩ ih
  by_cases h : k < len
  · rw [hstep k J h hb]
    cases hp : p k with
    | false => exact ih _ ⟨k + 1, h, rfl, fun j hj => by
        by_cases e : j = k
        · rw [e]; exact hp
        · exact hb j (by omega)⟩ (by simp; omega)
    | true => rw [find_range_some h hp hb]; rfl
  · have : k = len := by omega
    subst this
    rw [hfin _ hb, find_range_none hb]
theorem loop_idx {b : Int → (Int → Option Int) → Option Int} {len : Nat} {p : Nat → Bool} (hlen : len ≤ 9223372036854775807)
    (hstep : ∀ (k : Nat) (J : Int → Option Int), k < len → (∀ j, j < k → p j = false) → b (k : Int) J = bif p k then some (k : Int) else J ((k + 1 : Nat) : Int)) (hfin : ∀ J, (∀ j, j < len → p j = false) → b (len : Int) J = some (-1)) {n : Nat} (hn : len < n) :
    loopN b n (0 : Int) = some (idxOf p len) := by
  rw [loop_find (yes := fun k => some (k : Int)) (no := some (-1)) hlen hstep hfin hn]
  unfold idxOf
  cases (List.range len).find? p <;> rfl
theorem byteAt_rng (s : ByteArray) (k : Nat) : 0 ≤ byteAt s k ∧ byteAt s k ≤ 255 := by
  unfold byteAt
  have := (s.data.getD k 0).toNat_lt
  omega
theorem range_any {α : Type} {l : List α} {d : α} {f : α → Bool} : (List.range l.length).any (fun k => f (l.getD k d)) = l.any f := by
  induction l with
  | nil => rfl
  | cons a l ih =>
    rw [List.length_cons, List.range_succ_eq_map, List.any_cons, List.any_map, List.any_cons, ← ih]
    rfl
theorem range_all {α : Type} {l : List α} {d : α} {f : α → Bool} : (List.range l.length).all (fun k => f (l.getD k d)) = l.all f := by
  induction l with
  | nil => rfl
  | cons a l ih =>
    rw [List.length_cons, List.range_succ_eq_map, List.all_cons, List.all_map, List.all_cons, ← ih]
    rfl
theorem all_congr_lt {p q : Nat → Bool} {m : Nat} (h : ∀ k, k < m → p k = q k) : (List.range m).all p = (List.range m).all q := by
  rw [Bool.eq_iff_iff, List.all_eq_true, List.all_eq_true]
  constructor
  · intro g x hx; rw [← h x (List.mem_range.1 hx)]; exact g x hx
  · intro g x hx; rw [h x (List.mem_range.1 hx)]; exact g x hx
theorem any_congr_lt {p q : Nat → Bool} {m : Nat} (h : ∀ k, k < m → p k = q k) : (List.range m).any p = (List.range m).any q := by
  rw [Bool.eq_iff_iff, List.any_eq_true, List.any_eq_true]
  constructor
  · rintro ⟨x, hx, g⟩; exact ⟨x, hx, by rw [← h x (List.mem_range.1 hx)]; exact g⟩
  · rintro ⟨x, hx, g⟩; exact ⟨x, hx, by rw [h x (List.mem_range.1 hx)]; exact g⟩
theorem guard_sz {w : Nat} {x : Option Bool} (h : w ≤ 1048576 → x = some true) : (bif decide ((if (w : Int) ≤ 1048576 then 1048576 - (w : Int) else -1) < 0) then some true else x) = some true := by
  by_cases c : (w : Int) ≤ 1048576
  · rw [if_pos c, decide_eq_false (by omega), cond_false]
    exact h (by omega)
  · rw [if_neg c]
    rfl
end Go.Sm
end

section
set_option linter.unusedSimpArgs false
set_option linter.deprecated false
set_option linter.unusedSectionVars false
set_option linter.unusedVariables false
set_option linter.unusedSimpArgs false
namespace Go.Sm
attribute [local irreducible] bd chk ix loopN
def w_LInt (a : List Int) : Nat := a.length
theorem laws_szIntS_ok {n : Nat} (a : List Int) {left : Int} (h : (a.length ≤ 9223372036854775807 ∧ ∀ y ∈ a, rng (-9223372036854775808) 9223372036854775807 y)) (h0 : 0 ≤ left) (h1 : left ≤ 1048576) (hn : 1000000000 < n) : laws_szIntS n a left = some (if (w_LInt a : Int) ≤ left then left - (w_LInt a : Int) else -1) := by
  have hw : w_LInt a = a.length := rfl
  unfold laws_szIntS
  rw [w64_id (by have := h.1; omega) (by omega), bd_eq, bif_dec]
  by_cases c : (a.length : Int) ≤ left
  · rw [if_neg (by omega), if_pos (by omega)]
    congr 1
  · rw [if_pos (by omega), if_neg (by omega)]
def w_LLInt (a : List (List Int)) : Nat := a.length + sumOf (fun y => w_LInt y) a
theorem laws_szIntSS_ok {n : Nat} (a : List (List Int)) {left : Int} (h : (a.length ≤ 9223372036854775807 ∧ ∀ y ∈ a, (y.length ≤ 9223372036854775807 ∧ ∀ z ∈ y, rng (-9223372036854775808) 9223372036854775807 z))) (h0 : 0 ≤ left) (h1 : left ≤ 1048576) (hn : 1000000000 < n) : laws_szIntSS n a left = some (if (w_LLInt a : Int) ≤ left then left - (w_LLInt a : Int) else -1) := by
  have hw : w_LLInt a = a.length + sumOf (fun y => w_LInt y) a := rfl
  unfold laws_szIntSS
  rw [w64_id (by have := h.1; omega) (by omega), bd_eq, bif_dec]
  by_cases c : (a.length : Int) ≤ left
  case neg => rw [if_pos (by omega), if_neg (by omega)]
  rw [if_neg (by omega)]
  refine loopN_ind (fun x => a.length - x.2.toNat) (fun x => ∃ k : Nat, k ≤ a.length ∧ x = (left - (a.length : Int) - (sumOf (fun y => w_LInt y) (a.take k) : Int), (k : Int)) ∧ (sumOf (fun y => w_LInt y) (a.take k) : Int) ≤ left - (a.length : Int))
    (fun x r => r = some (if (w_LLInt a : Int) ≤ left then left - (w_LLInt a : Int) else -1)) ?_ n _ ⟨0, by omega, by simp [sumOf], by simp [sumOf]; omega⟩ (by simp; omega)
  rintro _ J ⟨k, hk, rfl, hb⟩ ih
  unfold laws_szIntSS_L5
  by_cases h2 : k < a.length
  · have s1 := sumOf_take_succ (f := fun y => w_LInt y) (d := []) h2
    have s2 := sumOf_take_le (fun y => w_LInt y) a (k + 1)
    try simp only at s1
    simp only [Int.ofNat_lt, h2, decide_true, cond_true, ix_nat h2, Int.toNat_natCast, bd_eq]
    rw [laws_szIntS_ok (n := n) (a.getD k []) (h.2 _ (getD_mem h2)) (by omega) (by omega) hn, Option.bind_some, bif_dec]
    by_cases c2 : (w_LInt (a.getD k []) : Int) ≤ left - (a.length : Int) - (sumOf (fun y => w_LInt y) (a.take k) : Int)
    · rw [if_pos c2, if_neg (by omega), w64_succ (by omega)]
      exact ih (_, ((k + 1 : Nat) : Int)) ⟨k + 1, h2, Prod.ext (by dsimp only; omega) rfl, by omega⟩ (by simp; omega)
    · rw [if_neg c2, if_pos (by omega), if_neg (by omega)]
  · have : k = a.length := by omega
    subst this
    rw [List.take_length] at hb ⊢
    simp only [Int.lt_irrefl, decide_false, cond_false]
    rw [if_pos (by omega)]
    congr 1
    omega
def w_SHull (a : SHull) : Nat := w_LLInt a.Half
theorem laws_szHull_ok {n : Nat} (a : SHull) {left : Int} (h : wfSHull a) (h0 : 0 ≤ left) (h1 : left ≤ 1048576) (hn : 1000000000 < n) : laws_szHull n a left = some (if (w_SHull a : Int) ≤ left then left - (w_SHull a : Int) else -1) := by
  have hw : w_SHull a = w_LLInt a.Half := rfl
  unfold laws_szHull
  rw [laws_szIntSS_ok (n := n) a.Half h.2.2 (by omega) (by omega) hn, Option.bind_some, bif_dec]
  by_cases c0 : (w_LLInt a.Half : Int) ≤ left
  case neg => rw [if_neg c0, if_pos (by omega), if_neg (by omega)]
  rw [if_pos c0, if_neg (by omega)]
  rw [if_pos (by omega)]
  try (refine congrArg some ?_; omega)
def w_LSRoom (a : List SRoom) : Nat := a.length
theorem laws_szRoomS_ok {n : Nat} (a : List SRoom) {left : Int} (h : (a.length ≤ 9223372036854775807 ∧ ∀ y ∈ a, wfSRoom y)) (h0 : 0 ≤ left) (h1 : left ≤ 1048576) (hn : 1000000000 < n) : laws_szRoomS n a left = some (if (w_LSRoom a : Int) ≤ left then left - (w_LSRoom a : Int) else -1) := by
  have hw : w_LSRoom a = a.length := rfl
  unfold laws_szRoomS
  rw [w64_id (by have := h.1; omega) (by omega), bd_eq, bif_dec]
  by_cases c : (a.length : Int) ≤ left
  · rw [if_neg (by omega), if_pos (by omega)]
    congr 1
  · rw [if_pos (by omega), if_neg (by omega)]
theorem laws_toIntS_ok {n : Nat} (a : List Int) (hb : w_LInt a ≤ 100000000) (hn : 1000000000 < n) : laws_toIntS n a = some a := by
  have hw0 : a.length ≤ 100000000 := by have hw : w_LInt a = a.length := rfl; omega
  unfold laws_toIntS
  rw [chk_dec (by omega), chk_dec (by omega), chk_dec (by omega)]
  refine loopN_ind (fun x => a.length - x.1.toNat) (fun x => ∃ k : Nat, k ≤ a.length ∧ x = ((k : Int), a.take k ++ (List.replicate a.length (0 : Int)).drop k)) (fun x r => r = some a) ?_ n _ ⟨0, by omega, by simp⟩ (by simp; omega)
  rintro _ J ⟨k, hk, rfl⟩ ih
  unfold laws_toIntS_L3
  dsimp only
  have hl : (a.take k ++ (List.replicate a.length (0 : Int)).drop k).length = a.length := by simp; omega
  by_cases h : k < a.length
  · have g := ih (((k + 1 : Nat) : Int), a.take (k + 1) ++ (List.replicate a.length (0 : Int)).drop (k + 1)) ⟨k + 1, h, rfl⟩ (by simp; omega)
    have hk2 : k < (a.take k ++ (List.replicate a.length (0 : Int)).drop k).length := by omega
    simp only [Int.ofNat_lt, h, hk2, decide_true, cond_true, ix_nat h, ix_nat hk2, chk_of, bd_eq, Option.bind_some, Int.toNat_natCast, w64_succ (show k < 9223372036854775807 by omega)]
    rw [take_drop_set (d := (0 : Int)) h rfl rfl]
    exact g
  · have : k = a.length := by omega
    subst this
    simp
theorem laws_toIntSS_ok {n : Nat} (a : List (List Int)) (hb : w_LLInt a ≤ 100000000) (hn : 1000000000 < n) : laws_toIntSS n a = some a := by
  have hw0 : a.length ≤ 100000000 := by have hw : w_LLInt a = a.length + sumOf (fun y => w_LInt y) a := rfl; omega
  unfold laws_toIntSS
  rw [chk_dec (by omega), chk_dec (by omega), chk_dec (by omega)]
  refine loopN_ind (fun x => a.length - x.1.toNat) (fun x => ∃ k : Nat, k ≤ a.length ∧ x = ((k : Int), a.take k ++ (List.replicate a.length []).drop k)) (fun x r => r = some a) ?_ n _ ⟨0, by omega, by simp⟩ (by simp; omega)
  rintro _ J ⟨k, hk, rfl⟩ ih
  unfold laws_toIntSS_L3
  dsimp only
  have hl : (a.take k ++ (List.replicate a.length []).drop k).length = a.length := by simp; omega
  by_cases h : k < a.length
  · have g := ih (((k + 1 : Nat) : Int), a.take (k + 1) ++ (List.replicate a.length []).drop (k + 1)) ⟨k + 1, h, rfl⟩ (by simp; omega)
    have s1 := sumOf_mem (f := fun y => w_LInt y) (d := []) h
    have hw : w_LLInt a = a.length + sumOf (fun y => w_LInt y) a := rfl
    try simp only at s1
    have hk2 : k < (a.take k ++ (List.replicate a.length []).drop k).length := by omega
    simp only [Int.ofNat_lt, h, hk2, decide_true, cond_true, ix_nat h, ix_nat hk2, chk_of, bd_eq, Option.bind_some, Int.toNat_natCast, w64_succ (show k < 9223372036854775807 by omega), laws_toIntS_ok (n := n) (a.getD k []) (by omega) hn]
    rw [take_drop_set (d := []) h rfl rfl]
    exact g
  · have : k = a.length := by omega
    subst this
    simp
theorem laws_toHull_ok {n : Nat} (a : SHull) (h : w_SHull a ≤ 100000000) (hn : 1000000000 < n) : laws_toHull n a = some a := by
  have hw : w_SHull a = w_LLInt a.Half := rfl
  simp [laws_toHull, laws_toIntSS_ok (n := n) a.Half (by omega) hn]
theorem laws_toRoom_ok (n : Nat) (a : SRoom) : laws_toRoom n a = some a := by simp [laws_toRoom]
theorem laws_toRoomS_ok {n : Nat} (a : List SRoom) (hb : w_LSRoom a ≤ 100000000) (hn : 1000000000 < n) : laws_toRoomS n a = some a := by
  have hw0 : a.length ≤ 100000000 := by have hw : w_LSRoom a = a.length := rfl; omega
  unfold laws_toRoomS
  rw [chk_dec (by omega), chk_dec (by omega), chk_dec (by omega)]
  refine loopN_ind (fun x => a.length - x.1.toNat) (fun x => ∃ k : Nat, k ≤ a.length ∧ x = ((k : Int), a.take k ++ (List.replicate a.length dSRoom).drop k)) (fun x r => r = some a) ?_ n _ ⟨0, by omega, by simp⟩ (by simp; omega)
  rintro _ J ⟨k, hk, rfl⟩ ih
  unfold laws_toRoomS_L3
  dsimp only
  have hl : (a.take k ++ (List.replicate a.length dSRoom).drop k).length = a.length := by simp; omega
  by_cases h : k < a.length
  · have g := ih (((k + 1 : Nat) : Int), a.take (k + 1) ++ (List.replicate a.length dSRoom).drop (k + 1)) ⟨k + 1, h, rfl⟩ (by simp; omega)
    have hk2 : k < (a.take k ++ (List.replicate a.length dSRoom).drop k).length := by omega
    simp only [Int.ofNat_lt, h, hk2, decide_true, cond_true, ix_nat h, ix_nat hk2, chk_of, bd_eq, Option.bind_some, Int.toNat_natCast, w64_succ (show k < 9223372036854775807 by omega), laws_toRoom_ok]
    rw [take_drop_set (d := dSRoom) h rfl rfl]
    exact g
  · have : k = a.length := by omega
    subst this
    simp
theorem laws_eqIntS_ok {n : Nat} (a : List Int) (hb : w_LInt a ≤ 100000000) (hn : 1000000000 < n) : laws_eqIntS n a a = some true := by
  have hw0 : a.length ≤ 100000000 := by have hw : w_LInt a = a.length := rfl; omega
  unfold laws_eqIntS
  simp only [decide_true, Bool.not_true, cond_false]
  refine loopN_ind (fun x => a.length - x.toNat) (fun x => ∃ k : Nat, k ≤ a.length ∧ x = (k : Int)) (fun x r => r = some true) ?_ n _ ⟨0, by omega, rfl⟩ (by simp; omega)
  rintro _ J ⟨k, hk, rfl⟩ ih
  unfold laws_eqIntS_L4
  by_cases h : k < a.length
  · have g := ih ((k + 1 : Nat) : Int) ⟨k + 1, h, rfl⟩ (by simp; omega)
    simp only [Int.ofNat_lt, h, decide_true, cond_true, ix_nat h, Bool.not_true, cond_false, bd_eq, Option.bind_some, beq_self_eq_true, Int.toNat_natCast, w64_succ (show k < 9223372036854775807 by omega)]
    exact g
  · simp [h]
theorem laws_eqIntSS_ok {n : Nat} (a : List (List Int)) (hb : w_LLInt a ≤ 100000000) (hn : 1000000000 < n) : laws_eqIntSS n a a = some true := by
  have hw0 : a.length ≤ 100000000 := by have hw : w_LLInt a = a.length + sumOf (fun y => w_LInt y) a := rfl; omega
  unfold laws_eqIntSS
  simp only [decide_true, Bool.not_true, cond_false]
  refine loopN_ind (fun x => a.length - x.toNat) (fun x => ∃ k : Nat, k ≤ a.length ∧ x = (k : Int)) (fun x r => r = some true) ?_ n _ ⟨0, by omega, rfl⟩ (by simp; omega)
  rintro _ J ⟨k, hk, rfl⟩ ih
  unfold laws_eqIntSS_L4
  by_cases h : k < a.length
  · have g := ih ((k + 1 : Nat) : Int) ⟨k + 1, h, rfl⟩ (by simp; omega)
    have s1 := sumOf_mem (f := fun y => w_LInt y) (d := []) h
    have hw : w_LLInt a = a.length + sumOf (fun y => w_LInt y) a := rfl
    try simp only at s1
    simp only [Int.ofNat_lt, h, decide_true, cond_true, ix_nat h, Bool.not_true, cond_false, bd_eq, Option.bind_some, beq_self_eq_true, Int.toNat_natCast, w64_succ (show k < 9223372036854775807 by omega), laws_eqIntS_ok (n := n) (a.getD k []) (by omega) hn]
    exact g
  · simp [h]
theorem laws_eqHull_ok {n : Nat} (a : SHull) (h : w_SHull a ≤ 100000000) (hn : 1000000000 < n) : laws_eqHull n a a = some true := by
  have hw : w_SHull a = w_LLInt a.Half := rfl
  simp [laws_eqHull, laws_eqIntSS_ok (n := n) a.Half (by omega) hn]
theorem laws_eqRoom_ok (n : Nat) (a : SRoom) : laws_eqRoom n a a = some true := by simp [laws_eqRoom]
theorem laws_eqRoomS_ok {n : Nat} (a : List SRoom) (hb : w_LSRoom a ≤ 100000000) (hn : 1000000000 < n) : laws_eqRoomS n a a = some true := by
  have hw0 : a.length ≤ 100000000 := by have hw : w_LSRoom a = a.length := rfl; omega
  unfold laws_eqRoomS
  simp only [decide_true, Bool.not_true, cond_false]
  refine loopN_ind (fun x => a.length - x.toNat) (fun x => ∃ k : Nat, k ≤ a.length ∧ x = (k : Int)) (fun x r => r = some true) ?_ n _ ⟨0, by omega, rfl⟩ (by simp; omega)
  rintro _ J ⟨k, hk, rfl⟩ ih
  unfold laws_eqRoomS_L4
  by_cases h : k < a.length
  · have g := ih ((k + 1 : Nat) : Int) ⟨k + 1, h, rfl⟩ (by simp; omega)
    simp only [Int.ofNat_lt, h, decide_true, cond_true, ix_nat h, Bool.not_true, cond_false, bd_eq, Option.bind_some, beq_self_eq_true, Int.toNat_natCast, w64_succ (show k < 9223372036854775807 by omega), laws_eqRoom_ok]
    exact g
  · simp [h]
def Mk_LInt (n : Nat) (k : Int) (a x : Int) : Prop := x = k
def n_LInt (a : List Int) : Nat := sumOf (fun y => 1) a
theorem n_LInt_eq (a : List Int) : n_LInt a = 1 * a.length := sumOf_const 1 a
theorem n_LInt_le (a : List Int) : n_LInt a ≤ 1 * w_LInt a := by
  have h := n_LInt_eq a
  have h2 : w_LInt a = a.length := rfl
  omega
theorem laws_markIntS_i {n : Nat} (a : List Int) (k0 : Int) (hk0 : 0 ≤ k0) (hb : k0 + ((n_LInt a : Nat) : Int) ≤ 900000000) (hw : w_LInt a ≤ 100000000) (hn : 1000000000 < n) :
    ∃ p : List Int, laws_markIntS n a k0 = some (k0 + ((n_LInt a : Nat) : Int), p) ∧ p.length = a.length ∧ ∀ i, i < a.length → Mk_LInt n (k0 + ((sumOf (fun y => 1) (a.take i) : Nat) : Int)) (a.getD i (0 : Int)) (p.getD i (0 : Int)) := by
  have hw0 : a.length ≤ 100000000 := by have hw : w_LInt a = a.length := rfl; omega
  have hnA : n_LInt a = sumOf (fun y => 1) a := rfl
  unfold laws_markIntS
  refine loopN_ind (fun x => a.length - x.2.1.toNat) (fun x => ∃ (k : Nat) (p : List Int), k ≤ a.length ∧ x = (k0 + ((sumOf (fun y => 1) (a.take k) : Nat) : Int), (k : Int), p) ∧ p.length = a.length ∧
      (∀ i, i < k → Mk_LInt n (k0 + ((sumOf (fun y => 1) (a.take i) : Nat) : Int)) (a.getD i (0 : Int)) (p.getD i (0 : Int))) ∧ ∀ i, k ≤ i → p.getD i (0 : Int) = a.getD i (0 : Int))
    (fun x r => ∃ p : List Int, r = some (k0 + ((n_LInt a : Nat) : Int), p) ∧ p.length = a.length ∧ ∀ i, i < a.length → Mk_LInt n (k0 + ((sumOf (fun y => 1) (a.take i) : Nat) : Int)) (a.getD i (0 : Int)) (p.getD i (0 : Int))) ?_ n _ ⟨0, a, by omega, by simp [sumOf], rfl, by omega, fun _ _ => rfl⟩ (by simp; omega)
  rintro _ J ⟨k, p, hk, rfl, hp, hm, hrest⟩ ih
  by_cases h : k < a.length
  · have h' : k < p.length := by omega
    have s1 := sumOf_take_succ (f := fun y => 1) (d := (0 : Int)) h
    have s2 := sumOf_take_le (fun y => 1) a (k + 1)
    try simp only at s1
    obtain ⟨kk, hkk⟩ : ∃ kk : Int, kk = k0 + ((sumOf (fun y => 1) (a.take k) : Nat) : Int) := ⟨_, rfl⟩
    have hpk := hrest k (Nat.le_refl _)
    have step : ∀ (K : Int → List Int → Option (Int × List Int)) (J : Int → Int → List Int → Option (Int × List Int)), laws_markIntS_L2 n K J kk (k : Int) p = J (kk + 1) ((k : Int) + 1) (p.set k (kk)) := fun K J => by
      unfold laws_markIntS_L2
      simp (disch := omega) only [Int.ofNat_lt, h', decide_true, cond_true, ix_nat h', List.length_set, chk_of, chk_true, bd_eq, getD_set h', List.set_set, hpk, Int.toNat_natCast, w64_id, Int.add_assoc, Int.reduceAdd, Option.bind_some]
    dsimp only
    rw [← hkk]
    refine (congrArg (fun z => ∃ q : List Int, z = some (k0 + ((n_LInt a : Nat) : Int), q) ∧ q.length = a.length ∧ ∀ i, i < a.length → Mk_LInt n (k0 + ((sumOf (fun y => 1) (a.take i) : Nat) : Int)) (a.getD i (0 : Int)) (q.getD i (0 : Int))) (step _ _)).mpr ?_
    refine ih _ ⟨k + 1, _, h, Prod.ext (by dsimp only; omega) (Prod.ext (by dsimp only; omega) rfl), by simpa using hp, fun i hi => ?_, fun i hi => ?_⟩ (by dsimp only; omega)
    · by_cases e : i = k
      · subst e
        rw [getD_set h', ← hkk]
        unfold Mk_LInt
        exact rfl
      · rw [getD_set_ne e]
        exact hm i (by omega)
    · rw [getD_set_ne (by omega)]
      exact hrest i (by omega)
  · have : k = a.length := by omega
    subst this
    unfold laws_markIntS_L2
    simp only [hp, Int.lt_irrefl, decide_false, cond_false]
    rw [List.take_length]
    exact ⟨p, rfl, hp, hm⟩
theorem laws_heldIntS_i {n : Nat} (a p : List Int) (hp : p.length = a.length) (k0 : Int) (hk0 : 0 ≤ k0) (hb : k0 + ((n_LInt a : Nat) : Int) ≤ 900000000) (hw : w_LInt a ≤ 100000000) (hn : 1000000000 < n)
    (hm : ∀ i, i < a.length → Mk_LInt n (k0 + ((sumOf (fun y => 1) (a.take i) : Nat) : Int)) (a.getD i (0 : Int)) (p.getD i (0 : Int))) : laws_heldIntS n p k0 = some (k0 + ((n_LInt a : Nat) : Int)) := by
  have hw0 : a.length ≤ 100000000 := by have hw : w_LInt a = a.length := rfl; omega
  have hnA : n_LInt a = sumOf (fun y => 1) a := rfl
  unfold laws_heldIntS
  refine loopN_ind (fun x => a.length - x.2.toNat) (fun x => ∃ (k : Nat), k ≤ a.length ∧ x = (k0 + ((sumOf (fun y => 1) (a.take k) : Nat) : Int), (k : Int)))
    (fun x r => r = some (k0 + ((n_LInt a : Nat) : Int))) ?_ n _ ⟨0, by omega, by simp [sumOf]⟩ (by simp; omega)
  rintro _ J ⟨k, hk, rfl⟩ ih
  by_cases h : k < a.length
  · have h' : k < p.length := by omega
    have s1 := sumOf_take_succ (f := fun y => 1) (d := (0 : Int)) h
    have s2 := sumOf_take_le (fun y => 1) a (k + 1)
    try simp only at s1
    have hmk := hm k h
    unfold Mk_LInt at hmk
    obtain ⟨kk, hkk⟩ : ∃ kk : Int, kk = k0 + ((sumOf (fun y => 1) (a.take k) : Nat) : Int) := ⟨_, rfl⟩
    rw [← hkk] at hmk
    try simp (disch := omega) only [Int.add_assoc, Int.reduceAdd] at hmk
    have e0 := hmk
    have step : ∀ (K K2 : Int → Option Int) (J : Int → Int → Option Int), laws_heldIntS_L2 n K K2 J p kk (k : Int) = J (kk + 1) ((k : Int) + 1) := fun K K2 J => by
      unfold laws_heldIntS_L2
      simp (disch := omega) only [Int.ofNat_lt, h', decide_true, cond_true, ix_nat h', bd_eq, Int.toNat_natCast, w64_id, Int.add_assoc, Int.reduceAdd, Option.bind_some, Bool.not_true, cond_false, beq_self_eq_true, decide_eq_false_iff_not, Int.not_lt, bif_dec, if_neg, e0]
    dsimp only
    rw [← hkk]
    refine (step _ _ _).trans ?_
    exact ih (_, _) ⟨k + 1, h, Prod.ext (by dsimp only; omega) (by dsimp only; omega)⟩ (by dsimp only; omega)
  · have : k = a.length := by omega
    subst this
    unfold laws_heldIntS_L2
    simp only [hp, Int.lt_irrefl, decide_false, cond_false]
    rw [List.take_length]
    rfl
theorem laws_markIntS_ok {n : Nat} (a : List Int) (k0 : Int) (hk0 : 0 ≤ k0) (hb : k0 + ((n_LInt a : Nat) : Int) ≤ 900000000) (hw : w_LInt a ≤ 100000000) (hn : 1000000000 < n) : ∃ p : List Int, laws_markIntS n a k0 = some (k0 + ((n_LInt a : Nat) : Int), p) ∧ laws_heldIntS n p k0 = some (k0 + ((n_LInt a : Nat) : Int)) := by
  obtain ⟨p, h1, h2, h3⟩ := laws_markIntS_i (n := n) a k0 hk0 hb hw hn
  exact ⟨p, h1, laws_heldIntS_i a p h2 k0 hk0 hb hw hn h3⟩
def Mk_LLInt (n : Nat) (k : Int) (a x : List Int) : Prop := laws_heldIntS n x (k) = some (k + ((n_LInt a : Nat) : Int))
def n_LLInt (a : List (List Int)) : Nat := sumOf (fun y => n_LInt y) a
theorem n_LLInt_le (a : List (List Int)) : n_LLInt a ≤ 1 * w_LLInt a := by
  have h := sumOf_lin (f := fun y : List Int => n_LInt y) (g := fun y : List Int => w_LInt y) (c := 1) (s := 0) (fun y => by have q0 := n_LInt_le y; show n_LInt y ≤ 1 * (w_LInt y) + 0; omega) a
  have h1 : n_LLInt a = sumOf (fun y : List Int => n_LInt y) a := rfl
  have h2 : w_LLInt a = a.length + sumOf (fun y : List Int => w_LInt y) a := rfl
  omega
theorem laws_markIntSS_i {n : Nat} (a : List (List Int)) (k0 : Int) (hk0 : 0 ≤ k0) (hb : k0 + ((n_LLInt a : Nat) : Int) ≤ 900000000) (hw : w_LLInt a ≤ 100000000) (hn : 1000000000 < n) :
    ∃ p : List (List Int), laws_markIntSS n a k0 = some (k0 + ((n_LLInt a : Nat) : Int), p) ∧ p.length = a.length ∧ ∀ i, i < a.length → Mk_LLInt n (k0 + ((sumOf (fun y => n_LInt y) (a.take i) : Nat) : Int)) (a.getD i []) (p.getD i []) := by
  have hw0 : a.length ≤ 100000000 := by have hw : w_LLInt a = a.length + sumOf (fun y => w_LInt y) a := rfl; omega
  have hnA : n_LLInt a = sumOf (fun y => n_LInt y) a := rfl
  unfold laws_markIntSS
  refine loopN_ind (fun x => a.length - x.2.1.toNat) (fun x => ∃ (k : Nat) (p : List (List Int)), k ≤ a.length ∧ x = (k0 + ((sumOf (fun y => n_LInt y) (a.take k) : Nat) : Int), (k : Int), p) ∧ p.length = a.length ∧
      (∀ i, i < k → Mk_LLInt n (k0 + ((sumOf (fun y => n_LInt y) (a.take i) : Nat) : Int)) (a.getD i []) (p.getD i [])) ∧ ∀ i, k ≤ i → p.getD i [] = a.getD i [])
    (fun x r => ∃ p : List (List Int), r = some (k0 + ((n_LLInt a : Nat) : Int), p) ∧ p.length = a.length ∧ ∀ i, i < a.length → Mk_LLInt n (k0 + ((sumOf (fun y => n_LInt y) (a.take i) : Nat) : Int)) (a.getD i []) (p.getD i [])) ?_ n _ ⟨0, a, by omega, by simp [sumOf], rfl, by omega, fun _ _ => rfl⟩ (by simp; omega)
  rintro _ J ⟨k, p, hk, rfl, hp, hm, hrest⟩ ih
  by_cases h : k < a.length
  · have h' : k < p.length := by omega
    have s1 := sumOf_take_succ (f := fun y => n_LInt y) (d := []) h
    have s2 := sumOf_take_le (fun y => n_LInt y) a (k + 1)
    try simp only at s1
    obtain ⟨kk, hkk⟩ : ∃ kk : Int, kk = k0 + ((sumOf (fun y => n_LInt y) (a.take k) : Nat) : Int) := ⟨_, rfl⟩
    have hpk := hrest k (Nat.le_refl _)
    have s3 := sumOf_mem (f := fun y => w_LInt y) (d := []) h
    have hwx : w_LLInt a = a.length + sumOf (fun y => w_LInt y) a := rfl
    try simp only at s3

    obtain ⟨t0, ht0, hh0⟩ := laws_markIntS_ok (n := n) (a.getD k []) (kk) (by omega) (by omega) (by omega) hn
    have step : ∀ (K : Int → List (List Int) → Option (Int × List (List Int))) (J : Int → Int → List (List Int) → Option (Int × List (List Int))), laws_markIntSS_L2 n K J kk (k : Int) p = J (kk + ((n_LInt (a.getD k []) : Nat) : Int)) ((k : Int) + 1) (p.set k (t0)) := fun K J => by
      unfold laws_markIntSS_L2
      simp (disch := omega) only [laws_markIntSS_k0, Int.ofNat_lt, h', decide_true, cond_true, ix_nat h', List.length_set, chk_of, chk_true, bd_eq, getD_set h', List.set_set, hpk, Int.toNat_natCast, w64_id, Int.add_assoc, Int.reduceAdd, Option.bind_some, ht0]
    dsimp only
    rw [← hkk]
    refine (congrArg (fun z => ∃ q : List (List Int), z = some (k0 + ((n_LLInt a : Nat) : Int), q) ∧ q.length = a.length ∧ ∀ i, i < a.length → Mk_LLInt n (k0 + ((sumOf (fun y => n_LInt y) (a.take i) : Nat) : Int)) (a.getD i []) (q.getD i [])) (step _ _)).mpr ?_
    refine ih _ ⟨k + 1, _, h, Prod.ext (by dsimp only; omega) (Prod.ext (by dsimp only; omega) rfl), by simpa using hp, fun i hi => ?_, fun i hi => ?_⟩ (by dsimp only; omega)
    · by_cases e : i = k
      · subst e
        rw [getD_set h', ← hkk]
        unfold Mk_LLInt
        exact hh0
      · rw [getD_set_ne e]
        exact hm i (by omega)
    · rw [getD_set_ne (by omega)]
      exact hrest i (by omega)
  · have : k = a.length := by omega
    subst this
    unfold laws_markIntSS_L2
    simp only [hp, Int.lt_irrefl, decide_false, cond_false]
    rw [List.take_length]
    exact ⟨p, rfl, hp, hm⟩
theorem laws_heldIntSS_i {n : Nat} (a p : List (List Int)) (hp : p.length = a.length) (k0 : Int) (hk0 : 0 ≤ k0) (hb : k0 + ((n_LLInt a : Nat) : Int) ≤ 900000000) (hw : w_LLInt a ≤ 100000000) (hn : 1000000000 < n)
    (hm : ∀ i, i < a.length → Mk_LLInt n (k0 + ((sumOf (fun y => n_LInt y) (a.take i) : Nat) : Int)) (a.getD i []) (p.getD i [])) : laws_heldIntSS n p k0 = some (k0 + ((n_LLInt a : Nat) : Int)) := by
  have hw0 : a.length ≤ 100000000 := by have hw : w_LLInt a = a.length + sumOf (fun y => w_LInt y) a := rfl; omega
  have hnA : n_LLInt a = sumOf (fun y => n_LInt y) a := rfl
  unfold laws_heldIntSS
  refine loopN_ind (fun x => a.length - x.2.toNat) (fun x => ∃ (k : Nat), k ≤ a.length ∧ x = (k0 + ((sumOf (fun y => n_LInt y) (a.take k) : Nat) : Int), (k : Int)))
    (fun x r => r = some (k0 + ((n_LLInt a : Nat) : Int))) ?_ n _ ⟨0, by omega, by simp [sumOf]⟩ (by simp; omega)
  rintro _ J ⟨k, hk, rfl⟩ ih
  by_cases h : k < a.length
  · have h' : k < p.length := by omega
    have s1 := sumOf_take_succ (f := fun y => n_LInt y) (d := []) h
    have s2 := sumOf_take_le (fun y => n_LInt y) a (k + 1)
    try simp only at s1
    have hmk := hm k h
    unfold Mk_LLInt at hmk
    obtain ⟨kk, hkk⟩ : ∃ kk : Int, kk = k0 + ((sumOf (fun y => n_LInt y) (a.take k) : Nat) : Int) := ⟨_, rfl⟩
    rw [← hkk] at hmk
    try simp (disch := omega) only [Int.add_assoc, Int.reduceAdd] at hmk
    have e0 := hmk
    have step : ∀ (K K2 : Int → Option Int) (J : Int → Int → Option Int), laws_heldIntSS_L2 n K K2 J p kk (k : Int) = J (kk + ((n_LInt (a.getD k []) : Nat) : Int)) ((k : Int) + 1) := fun K K2 J => by
      unfold laws_heldIntSS_L2
      simp (disch := omega) only [Int.ofNat_lt, h', decide_true, cond_true, ix_nat h', bd_eq, Int.toNat_natCast, w64_id, Int.add_assoc, Int.reduceAdd, Option.bind_some, Bool.not_true, cond_false, beq_self_eq_true, decide_eq_false_iff_not, Int.not_lt, bif_dec, if_neg, e0]
    dsimp only
    rw [← hkk]
    refine (step _ _ _).trans ?_
    exact ih (_, _) ⟨k + 1, h, Prod.ext (by dsimp only; omega) (by dsimp only; omega)⟩ (by dsimp only; omega)
  · have : k = a.length := by omega
    subst this
    unfold laws_heldIntSS_L2
    simp only [hp, Int.lt_irrefl, decide_false, cond_false]
    rw [List.take_length]
    rfl
theorem laws_markIntSS_ok {n : Nat} (a : List (List Int)) (k0 : Int) (hk0 : 0 ≤ k0) (hb : k0 + ((n_LLInt a : Nat) : Int) ≤ 900000000) (hw : w_LLInt a ≤ 100000000) (hn : 1000000000 < n) : ∃ p : List (List Int), laws_markIntSS n a k0 = some (k0 + ((n_LLInt a : Nat) : Int), p) ∧ laws_heldIntSS n p k0 = some (k0 + ((n_LLInt a : Nat) : Int)) := by
  obtain ⟨p, h1, h2, h3⟩ := laws_markIntSS_i (n := n) a k0 hk0 hb hw hn
  exact ⟨p, h1, laws_heldIntSS_i a p h2 k0 hk0 hb hw hn h3⟩
theorem laws_markHull_ok {n : Nat} (a : SHull) (k0 : Int) (hk0 : 0 ≤ k0) (hb : k0 + ((n_LLInt a.Half : Nat) : Int) ≤ 900000000) (hw : w_SHull a ≤ 100000000) (hn : 1000000000 < n) : ∃ w0, laws_markHull n a k0 = some (k0 + ((n_LLInt a.Half : Nat) : Int), w0) ∧ ∀ b : SHull, b.Half = w0 → laws_heldHull n b k0 = some (k0 + ((n_LLInt a.Half : Nat) : Int)) := by
  have hww : w_SHull a = w_LLInt a.Half := rfl
  obtain ⟨w0, x0, y0⟩ := laws_markIntSS_ok (n := n) a.Half (k0) (by omega) (by omega) (by omega) hn
  refine ⟨w0, ?_, fun b g0 => ?_⟩
  · unfold laws_markHull
    simp only [x0, Option.bind_some]
    first | done | (congr 2; omega)
  · unfold laws_heldHull
    rw [g0, y0, Option.bind_some, bif_dec, if_neg (by omega)]
    first | done | (congr 1; omega)
def Mk_LSRoom (n : Nat) (k : Int) (a x : SRoom) : Prop := x.First = k ∧ x.Last = k + 1 ∧ x.Perm = k + 2
def n_LSRoom (a : List SRoom) : Nat := sumOf (fun y => 3) a
theorem n_LSRoom_eq (a : List SRoom) : n_LSRoom a = 3 * a.length := sumOf_const 3 a
theorem n_LSRoom_le (a : List SRoom) : n_LSRoom a ≤ 3 * w_LSRoom a := by
  have h := n_LSRoom_eq a
  have h2 : w_LSRoom a = a.length := rfl
  omega
theorem laws_markRoomS_i {n : Nat} (a : List SRoom) (k0 : Int) (hk0 : 0 ≤ k0) (hb : k0 + ((n_LSRoom a : Nat) : Int) ≤ 900000000) (hw : w_LSRoom a ≤ 100000000) (hn : 1000000000 < n) :
    ∃ p : List SRoom, laws_markRoomS n a k0 = some (k0 + ((n_LSRoom a : Nat) : Int), p) ∧ p.length = a.length ∧ ∀ i, i < a.length → Mk_LSRoom n (k0 + ((sumOf (fun y => 3) (a.take i) : Nat) : Int)) (a.getD i dSRoom) (p.getD i dSRoom) := by
  have hw0 : a.length ≤ 100000000 := by have hw : w_LSRoom a = a.length := rfl; omega
  have hnA : n_LSRoom a = sumOf (fun y => 3) a := rfl
  unfold laws_markRoomS
  refine loopN_ind (fun x => a.length - x.2.1.toNat) (fun x => ∃ (k : Nat) (p : List SRoom), k ≤ a.length ∧ x = (k0 + ((sumOf (fun y => 3) (a.take k) : Nat) : Int), (k : Int), p) ∧ p.length = a.length ∧
      (∀ i, i < k → Mk_LSRoom n (k0 + ((sumOf (fun y => 3) (a.take i) : Nat) : Int)) (a.getD i dSRoom) (p.getD i dSRoom)) ∧ ∀ i, k ≤ i → p.getD i dSRoom = a.getD i dSRoom)
    (fun x r => ∃ p : List SRoom, r = some (k0 + ((n_LSRoom a : Nat) : Int), p) ∧ p.length = a.length ∧ ∀ i, i < a.length → Mk_LSRoom n (k0 + ((sumOf (fun y => 3) (a.take i) : Nat) : Int)) (a.getD i dSRoom) (p.getD i dSRoom)) ?_ n _ ⟨0, a, by omega, by simp [sumOf], rfl, by omega, fun _ _ => rfl⟩ (by simp; omega)
  rintro _ J ⟨k, p, hk, rfl, hp, hm, hrest⟩ ih
  by_cases h : k < a.length
  · have h' : k < p.length := by omega
    have s1 := sumOf_take_succ (f := fun y => 3) (d := dSRoom) h
    have s2 := sumOf_take_le (fun y => 3) a (k + 1)
    try simp only at s1
    obtain ⟨kk, hkk⟩ : ∃ kk : Int, kk = k0 + ((sumOf (fun y => 3) (a.take k) : Nat) : Int) := ⟨_, rfl⟩
    have hpk := hrest k (Nat.le_refl _)
    have step : ∀ (K : Int → List SRoom → Option (Int × List SRoom)) (J : Int → Int → List SRoom → Option (Int × List SRoom)), laws_markRoomS_L2 n K J kk (k : Int) p = J (kk + 3) ((k : Int) + 1) (p.set k (⟨(kk), (kk + 1), (kk + 2)⟩ : SRoom)) := fun K J => by
      unfold laws_markRoomS_L2
      simp (disch := omega) only [laws_markRoomS_k0, Int.ofNat_lt, h', decide_true, cond_true, ix_nat h', List.length_set, chk_of, chk_true, bd_eq, getD_set h', List.set_set, hpk, Int.toNat_natCast, w64_id, Int.add_assoc, Int.reduceAdd, Option.bind_some]
    dsimp only
    rw [← hkk]
    refine (congrArg (fun z => ∃ q : List SRoom, z = some (k0 + ((n_LSRoom a : Nat) : Int), q) ∧ q.length = a.length ∧ ∀ i, i < a.length → Mk_LSRoom n (k0 + ((sumOf (fun y => 3) (a.take i) : Nat) : Int)) (a.getD i dSRoom) (q.getD i dSRoom)) (step _ _)).mpr ?_
    refine ih _ ⟨k + 1, _, h, Prod.ext (by dsimp only; omega) (Prod.ext (by dsimp only; omega) rfl), by simpa using hp, fun i hi => ?_, fun i hi => ?_⟩ (by dsimp only; omega)
    · by_cases e : i = k
      · subst e
        rw [getD_set h', ← hkk]
        unfold Mk_LSRoom
        exact ⟨rfl, rfl, rfl⟩
      · rw [getD_set_ne e]
        exact hm i (by omega)
    · rw [getD_set_ne (by omega)]
      exact hrest i (by omega)
  · have : k = a.length := by omega
    subst this
    unfold laws_markRoomS_L2
    simp only [hp, Int.lt_irrefl, decide_false, cond_false]
    rw [List.take_length]
    exact ⟨p, rfl, hp, hm⟩
theorem laws_markRoomS_ok {n : Nat} (a : List SRoom) (k0 : Int) (hk0 : 0 ≤ k0) (hb : k0 + ((n_LSRoom a : Nat) : Int) ≤ 900000000) (hw : w_LSRoom a ≤ 100000000) (hn : 1000000000 < n) : ∃ p : List SRoom, laws_markRoomS n a k0 = some (k0 + ((n_LSRoom a : Nat) : Int), p) := by
  obtain ⟨p, h1, h2, h3⟩ := laws_markRoomS_i (n := n) a k0 hk0 hb hw hn
  exact ⟨p, h1⟩
end Go.Sm
end

section
set_option linter.unusedSimpArgs false
set_option linter.deprecated false
set_option linter.unusedSectionVars false
set_option linter.unusedVariables false
set_option linter.unusedSimpArgs false
namespace Go.Sm
attribute [local irreducible] bd chk ix loopN
theorem in_spec (n : Nat) (x a b : Int) : spec_l1In n x a b = some (decide (a ≤ x ∧ x ≤ b)) := by
  unfold spec_l1In
  by_cases h0 : a ≤ x <;> by_cases h1 : x ≤ b <;> simp [h0, h1]
theorem in_impl (n : Nat) (x a b : Int) : impl_in n x a b = some (decide (a ≤ x ∧ x ≤ b)) := by
  unfold impl_in
  by_cases h0 : a ≤ x <;> by_cases h1 : x ≤ b <;> simp [h0, h1]
theorem all_iff {p : Nat → Bool} {m : Nat} : (List.range m).all p = true ↔ ∀ k, k < m → p k = true := by
  rw [List.all_eq_true]
  exact ⟨fun h k hk => h k (List.mem_range.2 hk), fun h k hk => h k (List.mem_range.1 hk)⟩
theorem any_iff {p : Nat → Bool} {m : Nat} : (List.range m).any p = true ↔ ∃ k, k < m ∧ p k = true := by
  rw [List.any_eq_true]
  exact ⟨fun ⟨k, h1, h2⟩ => ⟨k, List.mem_range.1 h1, h2⟩, fun ⟨k, h1, h2⟩ => ⟨k, List.mem_range.2 h1, h2⟩⟩
abbrev hf (h : SHull) (s : Nat) : List Int := h.Half.getD s []
def cellB (l : List Int) (k : Nat) : Bool := decide (0 ≤ l.getD k 0 ∧ l.getD k 0 ≤ 50)
def cellsB (l : List Int) : Bool := (List.range l.length).all (cellB l)
def rowS (h : SHull) (s : Nat) : Bool := decide (((hf h s).length : Int) = ((hf h 0).length : Int)) && (decide (2 ≤ ((hf h s).length : Int) ∧ ((hf h s).length : Int) ≤ 10) && cellsB (hf h s))
def rowI (h : SHull) (s : Nat) : Bool := decide (((hf h s).length : Int) = ((hf h 0).length : Int)) && cellsB (hf h s)
def hullH (h : SHull) : Bool := decide (1 ≤ h.Step ∧ h.Step ≤ 100) && (decide (1 ≤ h.Rise ∧ h.Rise ≤ 20) && decide (2 ≤ (h.Half.length : Int) ∧ (h.Half.length : Int) ≤ 12))
def hullB (h : SHull) : Bool := hullH h && (List.range h.Half.length).all (rowS h)
def hullB' (h : SHull) : Bool := hullH h && (decide (2 ≤ ((hf h 0).length : Int) ∧ ((hf h 0).length : Int) ≤ 10) && (List.range h.Half.length).all (rowI h))
theorem hull_same (h : SHull) : hullB' h = hullB h := by
  unfold hullB hullB'
  cases hh : hullH h with
  | false => rfl
  | true =>
    rw [Bool.true_and, Bool.true_and, Bool.eq_iff_iff]
    unfold hullH at hh
    rw [Bool.and_eq_true, Bool.and_eq_true] at hh
    have h1 := of_decide_eq_true hh.2.2
    simp only [Bool.and_eq_true, all_iff, rowS, rowI, decide_eq_true_eq]
    constructor
    · rintro ⟨h2, h3⟩ k hk
      have h4 := h3 k hk
      exact ⟨h4.1, by omega, h4.2⟩
    · intro h2
      exact ⟨(h2 0 (by omega)).2.1, fun k hk => ⟨(h2 k hk).1, (h2 k hk).2.2⟩⟩
structure HSz (h : SHull) : Prop where
  len : h.Half.length ≤ 1048576
  each : ∀ i, (hf h i).length ≤ 1048576
theorem hSz {h : SHull} (hw : w_SHull h ≤ 1048576) : HSz h := by
  have h1 : w_SHull h = h.Half.length + sumOf (fun y => w_LInt y) h.Half := rfl
  refine ⟨by omega, fun i => ?_⟩
  by_cases hi : i < h.Half.length
  · have s := sumOf_mem (f := fun y => w_LInt y) (d := []) hi
    have h2 : w_LInt (h.Half.getD i []) = (hf h i).length := rfl
    try simp only at s
    omega
  · have : hf h i = [] := by simp [hf, List.getD, List.getElem?_eq_none (Nat.le_of_not_lt hi)]
    rw [this]
    exact Nat.zero_le _
theorem hull_spec {n : Nat} (h : SHull) (hz : HSz h) (hn : 1000000000 < n) : spec_HullOk n h = some (hullB h) := by
  have hl := hz.len
  unfold spec_HullOk hullB hullH
  rw [in_spec, in_spec, in_spec, Option.bind_some, Option.bind_some, Option.bind_some]
  cases decide (1 ≤ h.Step ∧ h.Step ≤ 100) with
  | false => rfl
  | true =>
    cases decide (1 ≤ h.Rise ∧ h.Rise ≤ 20) with
    | false => rfl
    | true =>
      by_cases hh : 2 ≤ (h.Half.length : Int) ∧ (h.Half.length : Int) ≤ 12
      · rw [decide_eq_true hh]
        simp only [Bool.not_true, cond_false, Bool.true_and]
        rw [loop_all (p := rowS h) (len := h.Half.length) (no := some false) (yes := some true) (by omega) (fun k J hk _ => ?_) (fun J _ => ?_) (by omega)]
        · rw [bif_tf]
        · have he := hz.each k
          have hi : loopN (fun (x : Int) J' => spec_HullOk_L9 n (J ((k + 1 : Nat) : Int)) (fun t29 => some t29) J' (k : Int) x h) n (0 : Int) = bif cellsB (hf h k) then J ((k + 1 : Nat) : Int) else some false := by
            rw [loop_all (p := cellB (hf h k)) (len := (hf h k).length) (no := some false) (yes := J ((k + 1 : Nat) : Int)) (by omega) (fun t J2 ht _ => ?_) (fun J2 _ => ?_) (by omega)]
            · rfl
            · unfold spec_HullOk_L9 cellB
              simp only [ix_nat hk, Int.toNat_natCast, Int.ofNat_lt, ht, decide_true, cond_true, ix_nat ht, in_spec, Option.bind_some, w64_succ (show t < 9223372036854775807 by omega), bif_not]
            · unfold spec_HullOk_L9
              simp only [ix_nat hk, Int.toNat_natCast, Int.lt_irrefl, decide_false, cond_false]
          unfold spec_HullOk_L4 spec_HullOk_k0 rowS
          simp only [Int.ofNat_lt, hk, decide_true, cond_true, ix_nat hk, ix_of (Int.le_refl 0) (show (0 : Int) < (h.Half.length : Int) by omega), Int.toNat_natCast, in_spec, Option.bind_some, w64_succ (show k < 9223372036854775807 by omega), hi, bif_not, bif_and', Bool.and_assoc]
        · unfold spec_HullOk_L4
          simp only [Int.lt_irrefl, decide_false, cond_false]
      · rw [decide_eq_false hh]; rfl
theorem all_impl {n : Nat} (l : List Int) (hl : l.length ≤ 1048576) (hn : 1000000000 < n) : impl_all n l 0 50 = some (cellsB l) := by
  unfold impl_all slices_ContainsFunc_int_int__impl_all_1 slices_IndexFunc_int_int__impl_all_1
  rw [loop_idx (p := fun k => !cellB l k) (len := l.length) (by omega) (fun k J h _ => ?_) (fun J _ => ?_) (by omega)]
  · rw [Option.bind_some, idxOf_ge, Option.bind_some]
    congr 1
    unfold cellsB
    rw [List.all_eq_not_any_not]
  · unfold slices_IndexFunc_int_int__impl_all_1_L2 impl_all_1 cellB
    simp only [Int.ofNat_lt, h, decide_true, cond_true, ix_nat h, Int.toNat_natCast, in_impl, Option.bind_some, w64_succ (show k < 9223372036854775807 by omega)]
  · unfold slices_IndexFunc_int_int__impl_all_1_L2
    simp only [Int.lt_irrefl, decide_false, cond_false]
theorem hull_impl {n : Nat} (h : SHull) (hz : HSz h) (hn : 1000000000 < n) : impl_HullOk n h = some (hullB' h) := by
  have hl := hz.len
  unfold impl_HullOk hullB' hullH
  rw [in_impl, in_impl, in_impl, Option.bind_some, Option.bind_some, Option.bind_some]
  cases decide (1 ≤ h.Step ∧ h.Step ≤ 100) with
  | false => rfl
  | true =>
    cases decide (1 ≤ h.Rise ∧ h.Rise ≤ 20) with
    | false => rfl
    | true =>
      by_cases hh : 2 ≤ (h.Half.length : Int) ∧ (h.Half.length : Int) ≤ 12
      · rw [decide_eq_true hh, ix_of (Int.le_refl 0) (show (0 : Int) < (h.Half.length : Int) by omega), in_impl, Option.bind_some]
        cases decide (2 ≤ ((h.Half.getD 0 []).length : Int) ∧ ((h.Half.getD 0 []).length : Int) ≤ 10) with
        | false => rfl
        | true =>
          simp only [Bool.not_true, cond_false, Bool.true_and]
          rw [loop_all (p := rowI h) (len := h.Half.length) (no := some false) (yes := some true) (by omega) (fun k J hk _ => ?_) (fun J _ => ?_) (by omega)]
          · rw [bif_tf]
          · have he : (h.Half.getD k []).length ≤ 1048576 := hz.each k
            unfold impl_HullOk_L4 impl_HullOk_k0 rowI
            simp only [Int.ofNat_lt, hk, decide_true, cond_true, ix_nat hk, ix_of (Int.le_refl 0) (show (0 : Int) < (h.Half.length : Int) by omega), Int.toNat_natCast, all_impl _ he hn, Option.bind_some, w64_succ (show k < 9223372036854775807 by omega), bif_not, bif_and', Bool.and_assoc]
          · unfold impl_HullOk_L4
            simp only [Int.lt_irrefl, decide_false, cond_false]
      · rw [decide_eq_false hh]; rfl
/-! ### Rooms -/
abbrev rm (l : List SRoom) (i : Nat) : SRoom := l.getD i dSRoom
def fits (h : SHull) (r : SRoom) : Bool := decide (0 ≤ r.First ∧ r.First ≤ w64 ((h.Half.length : Int) - 1)) && (decide (r.First ≤ r.Last ∧ r.Last ≤ w64 ((h.Half.length : Int) - 1)) && decide (0 ≤ r.Perm ∧ r.Perm ≤ 100))
def meetsR (a b : SRoom) : Bool := decide (a.First ≤ b.Last) && decide (b.First ≤ a.Last)
def roomB (h : SHull) (l : List SRoom) (i : Nat) : Bool := fits h (rm l i) && (List.range i).all fun k => !meetsR (rm l i) (rm l k)
def roomsB (h : SHull) (l : List SRoom) : Bool := hullB h && (decide (l.length ≤ 8) && (List.range l.length).all (roomB h l))
theorem rooms_spec {n : Nat} (h : SHull) (l : List SRoom) (hz : HSz h) (hl : l.length ≤ 1048576) (hn : 1000000000 < n) : spec_RoomsOk n h l = some (roomsB h l) := by
  unfold spec_RoomsOk roomsB
  rw [hull_spec h hz hn, Option.bind_some]
  cases hullB h with
  | false => rfl
  | true =>
    by_cases h8 : l.length ≤ 8
    · rw [decide_eq_false (show ¬ (l.length : Int) > 8 by omega), decide_eq_true h8]
      simp only [Bool.not_true, cond_false, Bool.true_and]
      rw [loop_all (p := roomB h l) (len := l.length) (no := some false) (yes := some true) (by omega) (fun k J hk _ => ?_) (fun J _ => ?_) (by omega)]
      · rw [bif_tf]
      · have hi : loopN (fun (x : Int) J' => spec_RoomsOk_L10 n (J ((k + 1 : Nat) : Int)) (fun t46 => some t46) J' l (k : Int) x h (rm l k)) n (0 : Int) = bif ((List.range k).all fun j => !meetsR (rm l k) (rm l j)) then J ((k + 1 : Nat) : Int) else some false := by
          rw [loop_all (p := fun j => !meetsR (rm l k) (rm l j)) (len := k) (no := some false) (yes := J ((k + 1 : Nat) : Int)) (by omega) (fun j J2 hj _ => ?_) (fun J2 _ => ?_) (by omega)]
          · unfold spec_RoomsOk_L10 spec_RoomsOk_k0 meetsR
            simp only [Int.ofNat_lt, hj, decide_true, cond_true, ix_nat (Nat.lt_trans hj hk), Int.toNat_natCast, bd_eq, w64_succ (show j < 9223372036854775807 by omega)]
            cases decide ((rm l k).First ≤ (rm l j).Last) <;> cases decide ((rm l j).First ≤ (rm l k).Last) <;> rfl
          · unfold spec_RoomsOk_L10
            simp only [Int.lt_irrefl, decide_false, cond_false]
        unfold spec_RoomsOk_L4 spec_RoomsOk_k1 roomB fits
        simp only [Int.ofNat_lt, hk, decide_true, cond_true, ix_nat hk, Int.toNat_natCast, bd_eq, in_spec, Option.bind_some, w64_succ (show k < 9223372036854775807 by omega), hi, bif_not, bif_and', Bool.and_assoc]
      · unfold spec_RoomsOk_L4
        simp only [Int.lt_irrefl, decide_false, cond_false]
    · rw [decide_eq_true (show (l.length : Int) > 8 by omega), decide_eq_false h8]
      rfl
def covB (l : List SRoom) (i : Nat) (x : Int) : Bool := (List.range i).any fun k => decide ((rm l k).First ≤ x ∧ x ≤ (rm l k).Last)
def putN (m : List (Int × Bool)) (f : Int) : Nat → List (Int × Bool)
  | 0 => m
  | j + 1 => mputI (putN m f j) (f + (j : Int)) true
theorem putN_get (m : List (Int × Bool)) (f x : Int) : ∀ j, (mgetI (putN m f j) x).getD false = ((mgetI m x).getD false || decide (f ≤ x ∧ x < f + (j : Int)))
  | 0 => by rw [decide_eq_false (by omega), Bool.or_false]; rfl
  | j + 1 => by
    unfold putN
    rw [mgetI_mputI]
    by_cases h : x = f + (j : Int)
    · rw [if_pos h, decide_eq_true (by omega), Bool.or_true]; rfl
    · rw [if_neg h, putN_get m f x j]
      congr 1
      simp only [decide_eq_decide]
      omega
theorem hull_len {h : SHull} (hh : hullB h = true) : 2 ≤ (h.Half.length : Int) ∧ (h.Half.length : Int) ≤ 12 := by
  unfold hullB hullH at hh
  rw [Bool.and_eq_true, Bool.and_eq_true, Bool.and_eq_true] at hh
  exact of_decide_eq_true hh.1.2.2
theorem fitsR_of {h : SHull} (hh : hullB h = true) {r : SRoom} (hf : fits h r = true) : 0 ≤ r.First ∧ r.First ≤ r.Last ∧ r.Last < (h.Half.length : Int) ∧ 0 ≤ r.Perm ∧ r.Perm ≤ 100 := by
  have hl := hull_len hh
  unfold fits at hf
  rw [Bool.and_eq_true, Bool.and_eq_true] at hf
  have h1 := of_decide_eq_true hf.1
  have h2 := of_decide_eq_true hf.2.1
  have h3 := of_decide_eq_true hf.2.2
  rw [w64_id (by omega) (by omega)] at h1 h2
  omega
theorem meetsR_cov {h : SHull} (hh : hullB h = true) {l : List SRoom} {i : Nat} (hf : fits h (rm l i) = true) (hp : ∀ j, j < i → roomB h l j = true) :
    ((List.range i).all fun k => !meetsR (rm l i) (rm l k)) = (List.range ((rm l i).Last + 1 - (rm l i).First).toNat).all fun j => !covB l i ((rm l i).First + (j : Int)) := by
  have f0 := fitsR_of hh hf
  rw [Bool.eq_iff_iff, all_iff, all_iff]
  constructor
  · intro h1 j hj
    rw [Bool.not_eq_true', Bool.eq_false_iff]
    intro hc
    unfold covB at hc
    obtain ⟨k, hk, hd⟩ := any_iff.1 hc
    have hd := of_decide_eq_true hd
    have h2 := h1 k hk
    unfold meetsR at h2
    rw [decide_eq_true (show (rm l i).First ≤ (rm l k).Last by omega), decide_eq_true (show (rm l k).First ≤ (rm l i).Last by omega)] at h2
    cases h2
  · intro h1 k hk
    have f1 := hp k hk
    unfold roomB at f1
    rw [Bool.and_eq_true] at f1
    have f1 := fitsR_of hh f1.1
    rw [Bool.not_eq_true', Bool.eq_false_iff]
    intro hm
    unfold meetsR at hm
    rw [Bool.and_eq_true] at hm
    have m1 := of_decide_eq_true hm.1
    have m2 := of_decide_eq_true hm.2
    have key : ∀ x : Int, (rm l i).First ≤ x → x ≤ (rm l i).Last → (rm l k).First ≤ x → x ≤ (rm l k).Last → False := by
      intro x a b c d
      have h2 := h1 (x - (rm l i).First).toNat (by omega)
      rw [Bool.not_eq_true', Bool.eq_false_iff] at h2
      refine h2 (any_iff.2 ⟨k, hk, decide_eq_true ?_⟩)
      omega
    by_cases c : (rm l i).First ≤ (rm l k).First
    · exact key (rm l k).First c m2 (by omega) f1.2.1
    · exact key (rm l i).First (by omega) f0.2.1 (by omega) m1
theorem covB_succ (l : List SRoom) (i : Nat) (x : Int) : covB l (i + 1) x = (covB l i x || decide ((rm l i).First ≤ x ∧ x ≤ (rm l i).Last)) := by
  unfold covB
  rw [any_range_succ]
theorem rooms_impl {n : Nat} (h : SHull) (l : List SRoom) (hz : HSz h) (hl : l.length ≤ 1048576) (hn : 1000000000 < n) : impl_RoomsOk n h l = some (roomsB h l) := by
  unfold impl_RoomsOk roomsB
  rw [hull_impl h hz hn, hull_same, Option.bind_some]
  cases hh : hullB h with
  | false => rfl
  | true =>
    have hlen := hull_len hh
    by_cases h8 : l.length ≤ 8
    · rw [decide_eq_false (show ¬ (l.length : Int) > 8 by omega), decide_eq_true h8]
      simp only [Bool.not_true, cond_false, Bool.true_and]
      refine (loop_allS (S := List (Int × Bool)) (X := Int × List (Int × Bool)) (enc := fun k s => (k, s)) (len := l.length) (p := roomB h l)
        (I := fun i m => ∀ x, (mgetI m x).getD false = covB l i x) (no := some false) (yes := some true) (fun i m J hi hI hp => ?_) (fun m J hI _ => ?_) (n := n) (by omega) (s0 := []) (fun q => by simp [mgetI, covB])).trans ?_
      · have hw := w64_id (show -9223372036854775808 ≤ (h.Half.length : Int) - 1 by omega) (by omega)
        refine ⟨putN m (rm l i).First ((rm l i).Last + 1 - (rm l i).First).toNat, fun hb x => ?_, ?_⟩
        · unfold roomB at hb
          rw [Bool.and_eq_true] at hb
          have f0 := fitsR_of hh hb.1
          rw [putN_get, hI x, covB_succ]
          congr 1
          simp only [decide_eq_decide]
          omega
        · show impl_RoomsOk_L5 n _ _ _ l (l.length : Int) (i : Int) h m = _
          unfold impl_RoomsOk_L5 impl_RoomsOk_k0 roomB
          simp only [Int.ofNat_lt, hi, decide_true, cond_true, ix_nat hi, Int.toNat_natCast, bd_eq, in_impl, Option.bind_some, w64_succ (show i < 9223372036854775807 by omega)]
          cases hf : fits h (rm l i) with
          | false =>
            rw [Bool.false_and, cond_false]
            unfold fits at hf
            rw [hw] at hf
            by_cases a : (rm l i).First < 0
            · rw [decide_eq_true a]; rfl
            · by_cases b : (rm l i).First > (rm l i).Last
              · rw [decide_eq_false a, decide_eq_true b]; rfl
              · by_cases c : (rm l i).Last ≥ (h.Half.length : Int)
                · rw [decide_eq_false a, decide_eq_false b, decide_eq_true c]; rfl
                · rw [decide_eq_true (show 0 ≤ (rm l i).First ∧ (rm l i).First ≤ (h.Half.length : Int) - 1 by omega), decide_eq_true (show (rm l i).First ≤ (rm l i).Last ∧ (rm l i).Last ≤ (h.Half.length : Int) - 1 by omega), Bool.true_and, Bool.true_and] at hf
                  rw [decide_eq_false a, decide_eq_false b, decide_eq_false c, hf]; rfl
          | true =>
            have f0 := fitsR_of hh hf
            rw [meetsR_cov hh hf hp]
            rw [decide_eq_false (show ¬ (rm l i).First < 0 by omega), decide_eq_false (show ¬ (rm l i).First > (rm l i).Last by omega), decide_eq_false (show ¬ (rm l i).Last ≥ (h.Half.length : Int) by omega), decide_eq_true (show 0 ≤ (rm l i).Perm ∧ (rm l i).Perm ≤ 100 by omega)]
            simp only [Bool.not_true, cond_false, Bool.true_and]
            have := loop_allS (R := Bool) (S := List (Int × Bool)) (X := Int × List (Int × Bool)) (enc := fun k s => ((rm l i).First + k, s)) (len := ((rm l i).Last + 1 - (rm l i).First).toNat) (p := fun j => !covB l i ((rm l i).First + (j : Int)))
              (b := fun x J' => impl_RoomsOk_L10 n (fun t64 => J (((i + 1 : Nat) : Int), t64)) (fun t67 => some t67) (fun s68 t69 => J' (s68, t69)) x.1 l (l.length : Int) (i : Int) h x.2 (rm l i))
              (I := fun j m' => m' = putN m (rm l i).First j) (no := some false) (yes := J (((i + 1 : Nat) : Int), putN m (rm l i).First ((rm l i).Last + 1 - (rm l i).First).toNat)) (fun j m' J2 hj hi2 _ => ?_) (fun m' J2 hi2 _ => ?_) (n := n) (by omega) (s0 := m) rfl
            · rw [Int.add_zero] at this
              exact this
            · refine ⟨mputI m' ((rm l i).First + (j : Int)) true, fun _ => by rw [hi2]; rfl, ?_⟩
              have hg : (mgetI m' ((rm l i).First + (j : Int))).getD false = covB l i ((rm l i).First + (j : Int)) := by
                rw [hi2, putN_get, hI, decide_eq_false (by omega), Bool.or_false]
              show impl_RoomsOk_L10 n _ _ _ ((rm l i).First + (j : Int)) l (l.length : Int) (i : Int) h m' (rm l i) = _
              unfold impl_RoomsOk_L10
              have hs : w64 ((rm l i).First + (j : Int) + 1) = (rm l i).First + ((j + 1 : Nat) : Int) := by rw [w64_id (by omega) (by omega)]; omega
              rw [decide_eq_true (show (rm l i).First + (j : Int) ≤ (rm l i).Last by omega), cond_true, bd_eq, hg, hs, bif_not]
            · subst hi2
              show impl_RoomsOk_L10 n _ _ _ ((rm l i).First + ((((rm l i).Last + 1 - (rm l i).First).toNat : Nat) : Int)) l (l.length : Int) (i : Int) h _ (rm l i) = _
              unfold impl_RoomsOk_L10
              rw [decide_eq_false (by omega), cond_false]
      · show impl_RoomsOk_L5 n _ _ _ l (l.length : Int) (l.length : Int) h m = _
        unfold impl_RoomsOk_L5
        simp only [Int.lt_irrefl, decide_false, cond_false]
      · rw [bif_tf]
    · rw [decide_eq_true (show (l.length : Int) > 8 by omega), decide_eq_false h8]
      rfl
end Go.Sm
end

section
set_option linter.unusedSimpArgs false
set_option linter.deprecated false
set_option linter.unusedSectionVars false
set_option linter.unusedVariables false
set_option linter.unusedSimpArgs false
namespace Go.Sm
attribute [local irreducible] bd chk ix loopN
def fl (perm y : Int) : Int := w64 (Int.tdiv (w64 (y * w64 (100 - perm))) 100)
theorem fl_zero {y : Int} (h : 0 ≤ y ∧ y ≤ 50) : fl 0 y = y := by
  unfold fl
  rw [show w64 ((100 : Int) - 0) = 100 from by rw [w64_id (by omega) (by omega)]; rfl, w64_id (show -9223372036854775808 ≤ y * 100 by omega) (by omega), Int.mul_tdiv_cancel _ (by omega), w64_id (by omega) (by omega)]
def covers (r : SRoom) (s : Nat) : Bool := decide (r.First ≤ (s : Int) ∧ (s : Int) ≤ r.Last)
def permAt (l : List SRoom) (s : Nat) : Nat → Int
  | 0 => 0
  | i + 1 => bif covers (rm l i) s then (rm l i).Perm else permAt l s i
theorem permAt_zero (l : List SRoom) (s : Nat) : ∀ i, (∀ k, k < i → covers (rm l k) s = false) → permAt l s i = 0
  | 0, _ => rfl
  | i + 1, h => by
    unfold permAt
    rw [h i (by omega)]
    exact permAt_zero l s i fun k hk => h k (by omega)
def tab (h : SHull) (f : Nat → List Int) : List (List Int) := (List.range h.Half.length).map f
theorem tab_len (h : SHull) (f : Nat → List Int) : (tab h f).length = h.Half.length := by simp [tab]
theorem tab_get (h : SHull) (f : Nat → List Int) {s : Nat} (hs : s < h.Half.length) : (tab h f).getD s [] = f s := by
  rw [getD_eq (by rw [tab_len]; exact hs)]
  simp [tab]
theorem tab_ext {h : SHull} {f g : Nat → List Int} (e : ∀ s, s < h.Half.length → f s = g s) : tab h f = tab h g := by
  unfold tab
  exact List.map_congr_left fun s hs => e s (List.mem_range.1 hs)
theorem tab_set (h : SHull) (f : Nat → List Int) (s : Nat) (v : List Int) : (tab h f).set s v = tab h fun x => if x = s then v else f x := by
  apply List.ext_getElem
  · simp [tab]
  · intro k h1 h2
    simp only [tab, List.getElem_set, List.getElem_map, List.getElem_range]
    by_cases e : s = k
    · rw [if_pos e, if_pos e.symm]
    · rw [if_neg e, if_neg (fun x => e x.symm)]
def rowK (g : Int → Int) (l : List Int) (t : Nat) : List Int := (l.take t).map g ++ l.drop t
theorem rowK_len (g : Int → Int) (l : List Int) (t : Nat) : (rowK g l t).length = l.length := by
  unfold rowK
  rw [List.length_append, List.length_map, List.length_take, List.length_drop]
  omega
theorem rowK_get (g : Int → Int) (l : List Int) {t : Nat} (h : t < l.length) : (rowK g l t).getD t 0 = l.getD t 0 := by
  unfold rowK
  have h1 : ((l.take t).map g).length = t := by rw [List.length_map, List.length_take]; omega
  rw [getD_eq (by rw [List.length_append, h1, List.length_drop]; omega), getD_eq h, List.getElem_append_right (by omega)]
  simp only [h1, Nat.sub_self]
  rw [List.getElem_drop]
  rfl
theorem rowK_set (g : Int → Int) (l : List Int) {t : Nat} (h : t < l.length) : (rowK g l t).set t (g (l.getD t 0)) = rowK g l (t + 1) := by
  unfold rowK
  have h1 : ((l.take t).map g).length = t := by rw [List.length_map, List.length_take]; omega
  rw [List.set_append_right _ _ (by omega), h1, Nat.sub_self, take_succ_getD (d := 0) h, List.map_append, List.append_assoc, drop_getD (d := 0) h]
  rfl
theorem rowK_full (g : Int → Int) (l : List Int) : rowK g l l.length = l.map g := by simp [rowK]
def floodR (h : SHull) (l : List SRoom) (i : Nat) : Nat → List Int := fun s => (hf h s).map (fl (permAt l s i))
def floodB (h : SHull) (l : List SRoom) : SHull := bif roomsB h l then ⟨h.Step, h.Rise, tab h (floodR h l l.length)⟩ else ⟨0, 0, []⟩
theorem rooms_good {h : SHull} {l : List SRoom} (hb : roomsB h l = true) : hullB h = true ∧ l.length ≤ 8 ∧ ∀ i, i < l.length → roomB h l i = true := by
  unfold roomsB at hb
  rw [Bool.and_eq_true, Bool.and_eq_true] at hb
  exact ⟨hb.1, of_decide_eq_true hb.2.1, all_iff.1 hb.2.2⟩
theorem cells_of {h : SHull} (hh : hullB h = true) {s : Nat} (hs : s < h.Half.length) : (hf h s).length ≤ 10 ∧ ∀ t, t < (hf h s).length → 0 ≤ (hf h s).getD t 0 ∧ (hf h s).getD t 0 ≤ 50 := by
  unfold hullB at hh
  rw [Bool.and_eq_true] at hh
  have h1 := all_iff.1 hh.2 s hs
  unfold rowS at h1
  rw [Bool.and_eq_true, Bool.and_eq_true] at h1
  have h2 := of_decide_eq_true h1.2.1
  refine ⟨by omega, fun t ht => ?_⟩
  exact of_decide_eq_true (all_iff.1 h1.2.2 t ht)
theorem map_zero {h : SHull} (hh : hullB h = true) {s : Nat} (hs : s < h.Half.length) : (hf h s).map (fl 0) = hf h s := by
  obtain ⟨_, h1⟩ := cells_of hh hs
  apply List.ext_getElem
  · simp
  · intro t h2 h3
    rw [List.getElem_map]
    have h4 := h1 t h3
    rw [getD_eq h3] at h4
    exact fl_zero h4
theorem spec_row {R : Type} {n : Nat} (kx : List Int → Option R) (rooms : List SRoom) (h : SHull) {s : Nat} (perm t18 t19 o1 o2 : Int) (c20 c23 : List (List Int)) (hh : hullB h = true) (hs : s < h.Half.length) (hn : 1000000000 < n) :
    loopN (fun (x : Int × List Int) J' => spec_Flood_L15 n kx (fun w53 row54 => J' (w53, row54)) rooms (s : Int) perm x.1 h t18 t19 c20 o1 o2 c23 x.2) n ((0 : Int), []) = kx ((hf h s).map (fl perm)) := by
  obtain ⟨h1, _⟩ := cells_of hh hs
  refine loop_runS (S := List Int) (X := Int × List Int) (enc := fun k s => (k, s)) (len := (hf h s).length) (I := fun k r => r = ((hf h s).take k).map (fl perm)) (Q := fun r => r = kx ((hf h s).map (fl perm))) (fun k r J hk hi => ?_) (fun r J hi => ?_) (by omega) (s0 := []) rfl
  · refine ⟨((hf h s).take (k + 1)).map (fl perm), rfl, ?_⟩
    show spec_Flood_L15 n _ _ rooms (s : Int) perm (k : Int) h t18 t19 c20 o1 o2 c23 r = _
    unfold spec_Flood_L15 spec_Flood_k1
    have hr : r.length = k := by rw [hi, List.length_map, List.length_take]; omega
    simp only [ix_nat hs, Int.toNat_natCast, Int.ofNat_lt, hk, decide_true, cond_true, ix_nat hk, bd_eq, w64_succ (show k < 9223372036854775807 by omega)]
    rw [chk_dec (by rw [List.length_append, List.length_singleton]; omega), take_succ_getD (d := 0) hk, List.map_append, ← hi]
    rfl
  · show spec_Flood_L15 n _ _ rooms (s : Int) perm ((hf h s).length : Int) h t18 t19 c20 o1 o2 c23 r = _
    unfold spec_Flood_L15
    simp only [ix_nat hs, Int.toNat_natCast, Int.lt_irrefl, decide_false, cond_false]
    rw [hi, List.take_length]
theorem flood_spec {n : Nat} (h : SHull) (l : List SRoom) (hz : HSz h) (hl : l.length ≤ 1048576) (hn : 1000000000 < n) : spec_Flood n h l = some (floodB h l) := by
  unfold spec_Flood floodB
  rw [rooms_spec h l hz hl hn, Option.bind_some]
  cases hb : roomsB h l with
  | false => rfl
  | true =>
    obtain ⟨hh, h8, hrb⟩ := rooms_good hb
    have hlen := hull_len hh
    simp only [Bool.not_true, cond_false, cond_true]
    refine loop_runS (S := List (List Int)) (X := Int × List (List Int)) (enc := fun k s => (k, s)) (len := h.Half.length) (I := fun k c => c = (List.range k).map (floodR h l l.length)) (Q := fun r => r = some (⟨h.Step, h.Rise, tab h (floodR h l l.length)⟩ : SHull)) (fun k c J hk hi => ?_) (fun c J hi => ?_) (by omega) (s0 := []) rfl
    · refine ⟨(List.range (k + 1)).map (floodR h l l.length), rfl, ?_⟩
      have hcl : c.length = k := by rw [hi]; simp
      show spec_Flood_L5 n _ _ l (k : Int) h 0 0 [] h.Step h.Rise c = _
      unfold spec_Flood_L5 spec_Flood_k2
      simp only [Int.ofNat_lt, hk, decide_true, cond_true, w64_succ (show k < 9223372036854775807 by omega)]
      refine loop_runS (S := Int) (X := Int × Int) (enc := fun k s => (s, k)) (len := l.length) (I := fun i p => p = permAt l k i) (Q := fun r => r = J (((k + 1 : Nat) : Int), (List.range (k + 1)).map (floodR h l l.length))) (fun i p J2 hi2 hp => ?_) (fun p J2 hp => ?_) (by omega) (s0 := 0) rfl
      · refine ⟨permAt l k (i + 1), rfl, ?_⟩
        show spec_Flood_L9 n _ _ l (k : Int) p (i : Int) h 0 0 [] h.Step h.Rise c = _
        unfold spec_Flood_L9 spec_Flood_k0
        simp only [Int.ofNat_lt, hi2, decide_true, cond_true, ix_nat hi2, Int.toNat_natCast, bd_eq, in_spec, Option.bind_some, w64_succ (show i < 9223372036854775807 by omega)]
        unfold permAt covers
        subst hp
        cases decide ((rm l i).First ≤ (k : Int) ∧ (k : Int) ≤ (rm l i).Last) <;> rfl
      · show spec_Flood_L9 n _ _ l (k : Int) p (l.length : Int) h 0 0 [] h.Step h.Rise c = _
        unfold spec_Flood_L9
        simp only [Int.lt_irrefl, decide_false, cond_false]
        rw [spec_row _ l h p 0 0 h.Step h.Rise [] c hh hk hn, chk_dec (by rw [List.length_append, List.length_singleton]; omega), List.range_succ, List.map_append, ← hi, hp]
        rfl
    · show spec_Flood_L5 n _ _ l (h.Half.length : Int) h 0 0 [] h.Step h.Rise c = _
      unfold spec_Flood_L5
      simp only [Int.lt_irrefl, decide_false, cond_false]
      rw [hi]
      rfl
theorem own_int {n : Nat} (l : List Int) (h : l.length ≤ 1048576) : impl_own_int n l = some l := by
  unfold impl_own_int
  rw [chk_dec (by omega), chk_dec (by omega), chk_dec (by omega)]
theorem own_rows {n : Nat} (l : List (List Int)) (h : l.length ≤ 1048576) : impl_own_int_f105 n l = some l := by
  unfold impl_own_int_f105
  rw [chk_dec (by omega), chk_dec (by omega), chk_dec (by omega)]
/-- One row of one room. -/
theorem impl_row {R : Type} {n : Nat} (kx : List (List Int) → Option R) (h : SHull) (f : Nat → List Int) (r : SRoom) (s : Nat) (t44 : List SRoom) (t45 t46 t50 t51 f53 f54 : Int) (c52 : List (List Int)) (hs : s < h.Half.length) (hf1 : (f s).length ≤ 10) (hn : 1000000000 < n) :
    loopN (fun (x : Int × List (List Int)) J' => impl_Flood_L17 n kx (fun t64 c65 => J' (t64, c65)) (s : Int) t44 t45 t46 s ((f s).length : Int) x.1 t50 t51 c52 f53 f54 x.2 r) n ((0 : Int), tab h f) = kx (tab h fun x => if x = s then (f s).map (fl r.Perm) else f x) := by
  refine loop_runS (S := List (List Int)) (X := Int × List (List Int)) (enc := fun k s => (k, s)) (len := (f s).length) (I := fun t c => c = tab h fun x => if x = s then rowK (fl r.Perm) (f s) t else f x)
    (Q := fun z => z = kx (tab h fun x => if x = s then (f s).map (fl r.Perm) else f x)) (fun t c J ht hi => ?_) (fun c J hi => ?_) (by omega) (s0 := _) (tab_ext fun x _ => ?_)
  · refine ⟨_, rfl, ?_⟩
    have hcl : c.length = h.Half.length := by rw [hi, tab_len]
    have hcg : c.getD s [] = rowK (fl r.Perm) (f s) t := by rw [hi, tab_get h _ hs, if_pos rfl]
    have hrl := rowK_len (fl r.Perm) (f s) t
    show impl_Flood_L17 n _ _ (s : Int) t44 t45 t46 s ((f s).length : Int) (t : Int) t50 t51 c52 f53 f54 c r = _
    unfold impl_Flood_L17 impl_Flood_k0
    simp only [Int.ofNat_lt, ht, decide_true, cond_true, Int.toNat_natCast, hcg, bd_eq, chk_dec (show s < c.length by omega), ix_nat (show s < c.length by omega), ix_nat (show t < (rowK (fl r.Perm) (f s) t).length by omega), chk_dec (show t < (rowK (fl r.Perm) (f s) t).length by omega), rowK_get _ _ ht, w64_succ (show t < 9223372036854775807 by omega)]
    have e : (rowK (fl r.Perm) (f s) t).set t (w64 (Int.tdiv (w64 ((f s).getD t 0 * w64 (100 - r.Perm))) 100)) = rowK (fl r.Perm) (f s) (t + 1) := rowK_set (fl r.Perm) (f s) ht
    rw [e, hi, tab_set]
    congr 2
    refine tab_ext fun x _ => ?_
    by_cases c : x = s
    · rw [if_pos c, if_pos c]
    · rw [if_neg c, if_neg c, if_neg c]
  · show impl_Flood_L17 n _ _ (s : Int) t44 t45 t46 s ((f s).length : Int) ((f s).length : Int) t50 t51 c52 f53 f54 c r = _
    unfold impl_Flood_L17
    simp only [Int.lt_irrefl, decide_false, cond_false]
    rw [hi, rowK_full]
  · by_cases c : x = s
    · rw [if_pos c, c]; simp [rowK]
    · rw [if_neg c]
theorem room_step {h : SHull} {l : List SRoom} (hb : roomsB h l = true) {i : Nat} (hi : i < l.length) {s : Nat} (hs : s < h.Half.length) : (bif covers (rm l i) s then (hf h s).map (fl (rm l i).Perm) else floodR h l i s) = floodR h l (i + 1) s ∧ (covers (rm l i) s = true → floodR h l i s = hf h s) := by
  obtain ⟨hh, h8, hrb⟩ := rooms_good hb
  have h1 := hrb i hi
  unfold roomB at h1
  rw [Bool.and_eq_true] at h1
  refine ⟨?_, fun hc => ?_⟩
  · unfold floodR
    rw [permAt]
    cases covers (rm l i) s <;> rfl
  · unfold floodR
    rw [permAt_zero l s i fun k hk => ?_]
    · exact map_zero hh hs
    · have h2 := all_iff.1 h1.2 k hk
      have h3 := of_decide_eq_true hc
      unfold covers
      refine decide_eq_false fun h4 => ?_
      unfold meetsR at h2
      rw [decide_eq_true (show (rm l i).First ≤ (rm l k).Last by omega), decide_eq_true (show (rm l k).First ≤ (rm l i).Last by omega)] at h2
      cases h2
/-- The state within a room: the first j stations of it done. -/
def midF (h : SHull) (l : List SRoom) (i j : Nat) : Nat → List Int := fun x => if (rm l i).First ≤ (x : Int) ∧ (x : Int) < (rm l i).First + (j : Int) then floodR h l (i + 1) x else floodR h l i x
theorem impl_room {R : Type} {n : Nat} (kx : List (List Int) → Option R) (h : SHull) (l : List SRoom) (hb : roomsB h l = true) {i : Nat} (hi : i < l.length) (t31 : List SRoom) (t32 t33 t34 t35 u1 u2 : Int) (c36 : List (List Int)) (hn : 1000000000 < n) :
    loopN (fun (x : Int × List (List Int)) J' => impl_Flood_L14 n kx (fun s67 c68 => J' (s67, c68)) x.1 t31 t32 t33 t34 t35 c36 u1 u2 x.2 (rm l i)) n ((rm l i).First, tab h (floodR h l i)) = kx (tab h (floodR h l (i + 1))) := by
  obtain ⟨hh, h8, hrb⟩ := rooms_good hb
  have h1 := hrb i hi
  unfold roomB at h1
  rw [Bool.and_eq_true] at h1
  have f0 := fitsR_of hh h1.1
  have hlen := hull_len hh
  have key := loop_runS (S := List (List Int)) (X := Int × List (List Int)) (enc := fun k s => ((rm l i).First + k, s)) (len := ((rm l i).Last + 1 - (rm l i).First).toNat)
    (b := fun x J' => impl_Flood_L14 n kx (fun s67 c68 => J' (s67, c68)) x.1 t31 t32 t33 t34 t35 c36 u1 u2 x.2 (rm l i)) (I := fun j c => c = tab h (midF h l i j))
    (Q := fun z => z = kx (tab h (floodR h l (i + 1)))) (fun j c J hj hc => ?_) (fun c J hc => ?_) (n := n) (by omega) (s0 := tab h (floodR h l i)) (tab_ext fun x _ => ?_)
  · rw [Int.add_zero] at key
    exact key
  · refine ⟨_, rfl, ?_⟩
    obtain ⟨s, hs⟩ : ∃ s : Nat, (rm l i).First + (j : Int) = (s : Int) := ⟨((rm l i).First + (j : Int)).toNat, by omega⟩
    have hs2 : s < h.Half.length := by omega
    have hcl : c.length = h.Half.length := by rw [hc, tab_len]
    have hm : midF h l i j s = floodR h l i s := by unfold midF; rw [if_neg (by omega)]
    have hcov : covers (rm l i) s = true := decide_eq_true (by omega)
    obtain ⟨g1, g2⟩ := room_step hb hi hs2
    have hfs : midF h l i j s = hf h s := by rw [hm, g2 hcov]
    have hcg : c.getD s [] = midF h l i j s := by rw [hc, tab_get h _ hs2]
    show impl_Flood_L14 n _ _ ((rm l i).First + (j : Int)) t31 t32 t33 t34 t35 c36 u1 u2 c (rm l i) = _
    unfold impl_Flood_L14 impl_Flood_k1
    have hw : w64 ((s : Int) + 1) = (rm l i).First + ((j + 1 : Nat) : Int) := by rw [w64_id (by omega) (by omega)]; omega
    rw [hs, decide_eq_true (show (s : Int) ≤ (rm l i).Last by omega), cond_true]
    simp only [Int.toNat_natCast, ix_nat (show s < c.length by omega), chk_dec (show s < c.length by omega), hcg, hw]
    rw [hc]
    rw [impl_row (n := n) _ h (midF h l i j) (rm l i) s t31 t32 t33 t34 t35 u1 u2 c36 hs2 (by rw [hfs]; exact (cells_of hh hs2).1) hn]
    congr 2
    refine tab_ext fun x hx => ?_
    by_cases c2 : x = s
    · subst c2
      rw [if_pos rfl, hfs]
      rw [hcov] at g1
      unfold midF
      rw [if_pos (by omega)]
      exact g1
    · rw [if_neg c2]
      unfold midF
      by_cases c3 : (rm l i).First ≤ (x : Int) ∧ (x : Int) < (rm l i).First + (j : Int)
      · rw [if_pos c3, if_pos (by omega)]
      · rw [if_neg c3, if_neg (by omega)]
  · show impl_Flood_L14 n _ _ ((rm l i).First + ((((rm l i).Last + 1 - (rm l i).First).toNat : Nat) : Int)) t31 t32 t33 t34 t35 c36 u1 u2 c (rm l i) = _
    unfold impl_Flood_L14
    rw [decide_eq_false (by omega), cond_false, hc]
    congr 1
    refine tab_ext fun x hx => ?_
    obtain ⟨g1, g2⟩ := room_step hb hi hx
    unfold midF
    by_cases c3 : (rm l i).First ≤ (x : Int) ∧ (x : Int) ≤ (rm l i).Last
    · rw [if_pos (by omega)]
    · rw [if_neg (by omega), ← g1, show covers (rm l i) x = false from decide_eq_false c3]; rfl
  · unfold midF
    rw [if_neg (by omega)]
theorem flood_impl {n : Nat} (h : SHull) (l : List SRoom) (hz : HSz h) (hl : l.length ≤ 1048576) (hn : 1000000000 < n) : impl_Flood n h l = some (floodB h l) := by
  have hzl := hz.len
  unfold impl_Flood floodB
  rw [rooms_impl h l hz hl hn, Option.bind_some]
  cases hb : roomsB h l with
  | false => rfl
  | true =>
    obtain ⟨hh, h8, hrb⟩ := rooms_good hb
    have hlen := hull_len hh
    simp only [Bool.not_true, cond_false, cond_true]
    unfold impl_Flood_k3
    refine loop_runS (S := List (List Int)) (X := Int × List (List Int)) (enc := fun k s => (k, s)) (len := h.Half.length) (I := fun k c => c = h.Half.take k) (Q := fun r => r = some (⟨h.Step, h.Rise, tab h (floodR h l l.length)⟩ : SHull)) (fun k c J hk hi => ?_) (fun c J hi => ?_) (by omega) (s0 := []) rfl
    · refine ⟨h.Half.take (k + 1), rfl, ?_⟩
      have he : (h.Half.getD k []).length ≤ 1048576 := hz.each k
      show impl_Flood_L5 n _ _ l h.Half (h.Half.length : Int) (k : Int) 0 0 [] h.Step h.Rise c = _
      unfold impl_Flood_L5
      subst hi
      simp only [Int.ofNat_lt, hk, decide_true, cond_true, ix_nat hk, Int.toNat_natCast, own_int _ he, Option.bind_some, ← take_succ_getD hk, w64_succ (show k < 9223372036854775807 by omega)]
      rw [chk_dec (by rw [List.length_take]; omega)]
    · show impl_Flood_L5 n _ _ l h.Half (h.Half.length : Int) (h.Half.length : Int) 0 0 [] h.Step h.Rise c = _
      unfold impl_Flood_L5
      simp only [Int.lt_irrefl, decide_false, cond_false]
      rw [hi, List.take_length, own_rows _ hzl, Option.bind_some]
      have h0 : h.Half = tab h (floodR h l 0) := by
        apply List.ext_getElem
        · rw [tab_len]
        · intro k h1 h2
          have h3 := tab_get h (floodR h l 0) h1
          rw [getD_eq h2] at h3
          rw [h3]
          have h4 := map_zero hh h1
          unfold floodR
          rw [show permAt l k 0 = 0 from rfl, h4]
          exact (getD_eq h1).symm
      refine loop_runS (S := List (List Int)) (X := Int × List (List Int)) (enc := fun k s => (k, s)) (len := l.length) (I := fun i c => c = tab h (floodR h l i)) (Q := fun r => r = some (⟨h.Step, h.Rise, tab h (floodR h l l.length)⟩ : SHull)) (fun i c J hi3 hc => ?_) (fun c J hc => ?_) (by omega) (s0 := h.Half) h0
      · refine ⟨_, rfl, ?_⟩
        show impl_Flood_L11 n _ _ l (l.length : Int) (i : Int) 0 0 [] h.Step h.Rise c = _
        unfold impl_Flood_L11 impl_Flood_k2
        simp only [Int.ofNat_lt, hi3, decide_true, cond_true, ix_nat hi3, Int.toNat_natCast, bd_eq, w64_succ (show i < 9223372036854775807 by omega)]
        rw [hc]
        exact impl_room (n := n) _ h l hb hi3 l _ _ 0 0 h.Step h.Rise [] hn
      · show impl_Flood_L11 n _ _ l (l.length : Int) (l.length : Int) 0 0 [] h.Step h.Rise c = _
        unfold impl_Flood_L11
        simp only [Int.lt_irrefl, decide_false, cond_false]
        rw [hc]
theorem sumOf_congr {α : Type} {f : α → Nat} {d : α} : ∀ (a b : List α), a.length = b.length → (∀ i, i < a.length → f (a.getD i d) = f (b.getD i d)) → sumOf f a = sumOf f b
  | [], [], _, _ => rfl
  | [], _ :: _, h, _ => by cases h
  | _ :: _, [], h, _ => by cases h
  | x :: a, y :: b, h, g => by
    have h1 : f x = f y := g 0 (Nat.zero_lt_succ _)
    show f x + sumOf f a = f y + sumOf f b
    rw [h1, sumOf_congr a b (Nat.succ.inj h) fun i hi => g (i + 1) (Nat.succ_lt_succ hi)]
theorem flood_w (h : SHull) (l : List SRoom) (hw : w_SHull h ≤ 1048576) : w_SHull (floodB h l) ≤ 1048576 := by
  unfold floodB
  cases roomsB h l with
  | false => exact Nat.zero_le _
  | true =>
    show (tab h (floodR h l l.length)).length + sumOf (fun y => w_LInt y) (tab h (floodR h l l.length)) ≤ 1048576
    rw [sumOf_congr (d := []) (tab h (floodR h l l.length)) h.Half (tab_len _ _) fun i hi => ?_, tab_len]
    · exact hw
    · rw [tab_len] at hi
      rw [tab_get h _ hi]
      show ((hf h i).map _).length = _
      rw [List.length_map]
      rfl
theorem laws_FnExactFlood_true (aH0 : SHull) (aRooms1 : List SRoom) (h0 : wfSHull aH0) (h1 : (aRooms1.length ≤ 9223372036854775807 ∧ ∀ y ∈ aRooms1, wfSRoom y)) : ∃ n, laws_FnExactFlood n aH0 aRooms1 = some true := by
  refine ⟨1000000001, ?_⟩
  generalize hN : (1000000001 : Nat) = n
  have hn : 1000000000 < n := by omega
  unfold laws_FnExactFlood
  rw [laws_szHull_ok (n := n) aH0 (left := 1048576) h0 (by omega) (by omega) hn, Option.bind_some]
  refine guard_sz fun hw => ?_
  rw [if_pos (by omega), laws_szRoomS_ok (n := n) aRooms1 (left := 1048576 - (w_SHull aH0 : Int)) h1 (by omega) (by omega) hn, Option.bind_some]
  by_cases hw2 : (w_LSRoom aRooms1 : Int) ≤ 1048576 - (w_SHull aH0 : Int)
  · rw [if_pos hw2, decide_eq_false (by omega), cond_false]
    have hl : aRooms1.length ≤ 1048576 := by have : w_LSRoom aRooms1 = aRooms1.length := rfl; omega
    have c1 := flood_w aH0 aRooms1 hw
    have hS := flood_spec (n := n) aH0 aRooms1 (hSz hw) hl hn
    have hI := flood_impl (n := n) aH0 aRooms1 (hSz hw) hl hn
    generalize floodB aH0 aRooms1 = R at *
    have n1 := n_LLInt_le aH0.Half
    have n2 := n_LSRoom_le aRooms1
    have n3 := n_LLInt_le R.Half
    have n4 : w_SHull aH0 = w_LLInt aH0.Half := rfl
    have n5 : w_SHull R = w_LLInt R.Half := rfl
    obtain ⟨u1, m1, m2⟩ := laws_markHull_ok (n := n) aH0 1 (by omega) (by omega) (by omega) hn
    obtain ⟨u2, m3⟩ := laws_markRoomS_ok (n := n) aRooms1 (1 + ((n_LLInt aH0.Half : Nat) : Int)) (by omega) (by omega) (by omega) hn
    obtain ⟨v1, p1, p2⟩ := laws_markHull_ok (n := n) R 1 (by omega) (by omega) (by omega) hn
    have d1 : decide (1 + ((n_LLInt aH0.Half : Nat) : Int) + ((n_LSRoom aRooms1 : Nat) : Int) < 0) = false := decide_eq_false (by omega)
    have d2 : decide (1 + ((n_LLInt R.Half : Nat) : Int) < 0) = false := decide_eq_false (by omega)
    have p3 := p2 ⟨R.Step, R.Rise, v1⟩ rfl
    unfold laws_FnExactFlood_k4 laws_FnExactFlood_k3 laws_FnExactFlood_k2 laws_FnExactFlood_k1 laws_FnExactFlood_k0
    simp only [laws_toHull_ok aH0 (show _ ≤ 100000000 by omega) hn, laws_toRoomS_ok aRooms1 (show _ ≤ 100000000 by omega) hn, hS, hI, Option.bind_some, laws_eqHull_ok aH0 (show _ ≤ 100000000 by omega) hn, laws_eqRoomS_ok aRooms1 (show _ ≤ 100000000 by omega) hn, laws_eqHull_ok R (show _ ≤ 100000000 by omega) hn,
      m1, m3, p1, p3, d1, d2, decide_true, beq_self_eq_true, Bool.not_true, cond_false, cond_true]
  · rw [if_neg hw2]; rfl
end Go.Sm
end
