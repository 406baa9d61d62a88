import Derived.Test.YtakllmgiobpmgaaEngA
import Derived.Test.YtakllmgiobpmgaaE10Seg
/- The functions as plain functions over data, and that the law answers true for all arguments. Segments: what is written of a right list reads back as it, and what reads well is written as the text. -/
set_option linter.unusedSimpArgs false
set_option linter.deprecated false
set_option linter.unusedSectionVars false
section
set_option linter.unusedVariables false
namespace Go.Sm
structure SSeg where
  Tag : ByteArray
  Parts : List (List ByteArray)
structure Sl1Cur where
  b : List Int
  i : Int
  h : Int
def dSSeg : SSeg := ⟨str [], []⟩
def dSl1Cur : Sl1Cur := ⟨[], (0 : Int), (0 : Int)⟩
def laws_big (n : Nat) (code0 : List Int) : Option Bool :=
  some ((decide ((code0.length : Int) > (1048576 : Int))))
def spec_l1New_k0 {R : Type} (n : Nat) (kx0 : Int → Option R) (J : Int → Int → Option R) (code2 : List Int) (h8 : Int) (i9 : Int) : Option R :=
  ix i9 code2.length ((bd (w64 ((w64 (h8 * (131 : Int))) + (w64 (code2.getD i9.toNat (0 : Int))))) fun (v10 : Int) => (bd (w64 (((BitVec.ofInt 64 (w64 (v10 + (7 : Int))) &&& BitVec.ofInt 64 (1073741823 : Int)).toNat : Nat) : Int)) fun (v11 : Int) => J v11 (w64 (i9 + (1 : Int))))))
def spec_l1New_L3 {R : Type} (n : Nat) (kx0 : Int → Option R) (J : Int → Int → Option R) (code2 : List Int) (h3 : Int) (i4 : Int) : Option R :=
  (bif (decide (i4 < (code2.length : Int))) then (bif (decide (i4 < (4000 : Int))) then spec_l1New_k0 n kx0 J code2 h3 i4 else kx0 h3) else kx0 h3)
def spec_l1New (n : Nat) (code0 : List Int) : Option Sl1Cur :=
  (bd (w64 ((59059 : Int) + (code0.length : Int))) fun (v1 : Int) => loopN (fun (x : Int × Int) J' => spec_l1New_L3 n (fun h16 => some ((⟨code0, (0 : Int), h16⟩ : Sl1Cur))) (fun h17 i18 => J' (h17, i18)) code0 x.1 x.2) n (v1, (0 : Int)))
def spec_l1Byte (n : Nat) (c0 : Sl1Cur) : Option (Int × Sl1Cur) :=
  (bd (w64 (c0.h * (6364136223846793005 : Int))) fun (v1 : Int) => (bd (w64 (v1 + (1442695040888963407 : Int))) fun (v2 : Int) => (bd (Int.fdiv v2 (2 ^ (min (33 : Int).toNat 64))) fun (v3 : Int) => (bd (Int.fdiv v2 (2 ^ (min (45 : Int).toNat 64))) fun (v4 : Int) => (bd (w64 (((BitVec.ofInt 64 v3 ^^^ BitVec.ofInt 64 v4).toNat : Nat) : Int)) fun (v5 : Int) => (bd (w64 (((BitVec.ofInt 64 v5 &&& BitVec.ofInt 64 (255 : Int)).toNat : Nat) : Int)) fun (v6 : Int) => (bif (decide (c0.i < (c0.b.length : Int))) then ix c0.i c0.b.length ((bd (w64 (v6 + (w64 (c0.b.getD c0.i.toNat (0 : Int))))) fun (v7 : Int) => (bd (w64 (((BitVec.ofInt 64 v7 &&& BitVec.ofInt 64 (255 : Int)).toNat : Nat) : Int)) fun (v8 : Int) => some (v8, (⟨c0.b, (w64 (c0.i + (1 : Int))), v2⟩ : Sl1Cur))))) else some (v6, (⟨c0.b, c0.i, v2⟩ : Sl1Cur)))))))))
def spec_l1Below_k0 (n : Nat)  (n1 : Int) (p3 : Sl1Cur) : Option (Int × Sl1Cur) :=
  (spec_l1Byte n p3).bind fun r4 => (spec_l1Byte n r4.2).bind fun r5 => (spec_l1Byte n r5.2).bind fun r6 => (spec_l1Byte n r6.2).bind fun r7 => (bd (w64 (r4.1 * (16777216 : Int))) fun (v8 : Int) => (bd (w64 (r5.1 * (65536 : Int))) fun (v9 : Int) => (bd (w64 (r6.1 * (256 : Int))) fun (v10 : Int) => (bd (w64 ((w64 (v8 + v9)) + v10)) fun (v11 : Int) => (bif decide (n1 = 0) then none else (bd (Int.tmod (w64 (v11 + r7.1)) n1) fun (v12 : Int) => some (v12, r7.2)))))))
def spec_l1Below (n : Nat) (c0 : Sl1Cur) (n1 : Int) : Option (Int × Sl1Cur) :=
  (bif (decide (n1 ≤ (0 : Int))) then some ((0 : Int), c0) else (bif (decide (n1 ≤ (256 : Int))) then (spec_l1Byte n c0).bind fun r13 => (bif decide (n1 = 0) then none else some ((Int.tmod r13.1 n1), r13.2)) else spec_l1Below_k0 n  n1 c0))
def spec_l1Pick (n : Nat) (c0 : Sl1Cur) (list1 : List ByteArray) : Option (ByteArray × Sl1Cur) :=
  (spec_l1Below n c0 (list1.length : Int)).bind fun r1 => ix r1.1 list1.length (some ((list1.getD r1.1.toNat (str [])), r1.2))
def spec_l1Once (n : Nat) (c0 : Sl1Cur) (n1 : Int) : Option (Bool × Sl1Cur) :=
  (spec_l1Below n c0 n1).bind fun r1 => some ((decide (r1.1 = (0 : Int))), r1.2)
def spec_l21DrawText_k0 {R : Type} (n : Nat) (kx0 : List Int → Sl1Cur → Option R) (J : Int → Sl1Cur → List Int → Option R) (n7 : Int) (i11 : Int) (p12 : Sl1Cur) (b13 : List Int) : Option R :=
  (spec_l1Pick n p12 [str [97], str [90], str [55], str [32], str [43], str [58], str [39], str [63], str [126], str [45]]).bind fun r14 => ix (0 : Int) r14.1.size (chk (decide ((b13 ++ [(byteAt r14.1 0)]).length * 1 ≤ 140737488355328)) (J (w64 (i11 + (1 : Int))) r14.2 (b13 ++ [(byteAt r14.1 0)])))
def spec_l21DrawText_L6 {R : Type} (n : Nat) (kx0 : List Int → Sl1Cur → Option R) (J : Int → Sl1Cur → List Int → Option R) (n7 : Int) (i8 : Int) (p9 : Sl1Cur) (b10 : List Int) : Option R :=
  (bif (decide (i8 < n7)) then spec_l21DrawText_k0 n kx0 J n7 i8 p9 b10 else kx0 b10 p9)
def spec_l21DrawText (n : Nat) (c0 : Sl1Cur) : Option (ByteArray × Sl1Cur) :=
  (spec_l1Below n c0 (8 : Int)).bind fun r1 => (spec_l1Once n r1.2 (40 : Int)).bind fun r2 => (bif r2.1 then (spec_l1Below n r2.2 (3 : Int)).bind fun r3 => (bd (w64 ((39 : Int) + r3.1)) fun (v4 : Int) => loopN (fun (x : Int × Sl1Cur × List Int) J' => spec_l21DrawText_L6 n (fun b20 p21 => some ((bstr b20), p21)) (fun i22 p23 b24 => J' (i22, p23, b24)) v4 x.1 x.2.1 x.2.2) n ((0 : Int), r3.2, [])) else loopN (fun (x : Int × Sl1Cur × List Int) J' => spec_l21DrawText_L6 n (fun b27 p28 => some ((bstr b27), p28)) (fun i29 p30 b31 => J' (i29, p30, b31)) r1.1 x.1 x.2.1 x.2.2) n ((0 : Int), r2.2, []))
def spec_l1PickInt (n : Nat) (c0 : Sl1Cur) (list1 : List Int) : Option (Int × Sl1Cur) :=
  (spec_l1Below n c0 (list1.length : Int)).bind fun r1 => ix r1.1 list1.length (some ((list1.getD r1.1.toNat (0 : Int)), r1.2))
def spec_l21DrawSegs_L11 {R : Type} (n : Nat) (kx4 : Sl1Cur → List ByteArray → Option R) (J : Int → Sl1Cur → List ByteArray → Option R) (i21 : Int) (p22 : Int) (k23 : Int) (p24 : Sl1Cur) (out25 : List SSeg) (s26 : ByteArray) (c27 : List (List ByteArray)) (part28 : List ByteArray) : Option R :=
  (bif (decide (k23 > (0 : Int))) then (spec_l21DrawText n p24).bind fun r33 => chk (decide ((part28 ++ [r33.1]).length * 16 ≤ 140737488355328)) (J (w64 (k23 - (1 : Int))) r33.2 (part28 ++ [r33.1])) else kx4 p24 part28)
def spec_l21DrawSegs_k0 {R : Type} (n : Nat) (kx2 : Sl1Cur → List (List ByteArray) → Option R) (J : Int → Sl1Cur → List (List ByteArray) → Option R) (i10 : Int) (p16 : Int) (p17 : Sl1Cur) (out13 : List SSeg) (s14 : ByteArray) (c18 : List (List ByteArray)) : Option R :=
  (spec_l1Below n p17 (3 : Int)).bind fun r19 => (bd (w64 ((1 : Int) + r19.1)) fun (v20 : Int) => loopN (fun (x : Int × Sl1Cur × List ByteArray) J' => spec_l21DrawSegs_L11 n (fun p34 part35 => chk (decide ((c18 ++ [part35]).length * 24 ≤ 140737488355328)) (J (w64 (p16 - (1 : Int))) p34 (c18 ++ [part35]))) (fun k36 p37 part38 => J' (k36, p37, part38)) i10 p16 x.1 x.2.1 out13 s14 c18 x.2.2) n (v20, r19.2, []))
def spec_l21DrawSegs_L7 {R : Type} (n : Nat) (kx2 : Sl1Cur → List (List ByteArray) → Option R) (J : Int → Sl1Cur → List (List ByteArray) → Option R) (i10 : Int) (p11 : Int) (p12 : Sl1Cur) (out13 : List SSeg) (s14 : ByteArray) (c15 : List (List ByteArray)) : Option R :=
  (bif (decide (p11 > (0 : Int))) then spec_l21DrawSegs_k0 n kx2 J i10 p11 p12 out13 s14 c15 else kx2 p12 c15)
def spec_l21DrawSegs_k1 {R : Type} (n : Nat) (kx0 : Sl1Cur → List SSeg → Option R) (J : Int → Sl1Cur → List SSeg → Option R) (i5 : Int) (p6 : Sl1Cur) (out7 : List SSeg) : Option R :=
  (spec_l1Pick n p6 [str [85, 78, 72], str [66, 71, 77], str [76, 79, 67], str [69, 81, 68], str [85, 78, 84]]).bind fun r8 => (spec_l1Below n r8.2 (4 : Int)).bind fun r9 => loopN (fun (x : Int × Sl1Cur × List (List ByteArray)) J' => spec_l21DrawSegs_L7 n (fun p39 c40 => (bd (out7 ++ [(⟨r8.1, c40⟩ : SSeg)]) fun (l41 : List SSeg) => chk (decide (l41.length * 40 ≤ 140737488355328)) (J (w64 (i5 - (1 : Int))) p39 l41))) (fun p42 p43 c44 => J' (p42, p43, c44)) i5 x.1 x.2.1 out7 r8.1 x.2.2) n (r9.1, r9.2, [])
def spec_l21DrawSegs_L3 {R : Type} (n : Nat) (kx0 : Sl1Cur → List SSeg → Option R) (J : Int → Sl1Cur → List SSeg → Option R) (i2 : Int) (p3 : Sl1Cur) (out4 : List SSeg) : Option R :=
  (bif (decide (i2 > (0 : Int))) then spec_l21DrawSegs_k1 n kx0 J i2 p3 out4 else kx0 p3 out4)
def spec_l21DrawSegs_k2 {R : Type} (n : Nat) (kx7 : List SSeg → Option R) (J : Int → List SSeg → Option R) (p58 : Int) (out59 : List SSeg) (p56 : Sl1Cur) : Option R :=
  (bd (w64 ((out59.length : Int) - (1 : Int))) fun (v60 : Int) => ix v60 out59.length (chk (decide (v60.toNat < out59.length)) (chk (decide (v60.toNat < out59.length)) (ix p58 (((out59.getD v60.toNat dSSeg).Parts).length) (chk (decide (v60.toNat < out59.length)) (chk (decide (p58.toNat < ((out59.getD v60.toNat dSSeg).Parts).length)) ((bd (((out59.getD v60.toNat dSSeg).Parts).set p58.toNat [str [120]]) fun (l61 : List (List ByteArray)) => chk (decide (v60.toNat = v60.toNat)) (chk (decide (v60.toNat < out59.length)) ((bd (out59.set v60.toNat (⟨(out59.getD v60.toNat dSSeg).Tag, l61⟩ : SSeg)) fun (l62 : List SSeg) => J (w64 (p58 + (1 : Int))) l62)))))))))))
def spec_l21DrawSegs_L22 {R : Type} (n : Nat) (kx7 : List SSeg → Option R) (J : Int → List SSeg → Option R) (p54 : Int) (out55 : List SSeg) (p56 : Sl1Cur) : Option R :=
  (bd (w64 ((out55.length : Int) - (1 : Int))) fun (v57 : Int) => ix v57 out55.length (chk (decide (v57.toNat < out55.length)) (chk (decide (v57.toNat < out55.length)) ((bif (decide (p54 < (((out55.getD v57.toNat dSSeg).Parts).length : Int))) then spec_l21DrawSegs_k2 n kx7 J p54 out55 p56 else kx7 out55)))))
def spec_l21DrawSegs_L32 {R : Type} (n : Nat) (kx9 : List SSeg → Option R) (J : Int → List SSeg → Option R) (i78 : Int) (c79 : List SSeg) (p80 : Sl1Cur) : Option R :=
  (bif (decide (i78 > (0 : Int))) then (bd (c79 ++ [(⟨str [84, 73, 67], []⟩ : SSeg)]) fun (l84 : List SSeg) => chk (decide (l84.length * 40 ≤ 140737488355328)) (J (w64 (i78 - (1 : Int))) l84)) else kx9 c79)
def spec_l21DrawSegs_k3 {R : Type} (n : Nat) (kx13 : List (List ByteArray) → Option R) (J : Int → List (List ByteArray) → Option R) (i95 : Int) (p101 : Int) (p97 : Sl1Cur) (out98 : List SSeg) (s99 : ByteArray) (c102 : List (List ByteArray)) : Option R :=
  (bd (c102 ++ [[str [48, 49, 50, 51, 52, 53, 54, 55, 56, 57, 48, 49, 50, 51, 52, 53, 54, 55, 56, 57, 48, 49, 50, 51, 52, 53, 54, 55, 56, 57, 48, 49, 50, 51, 52, 53, 54, 55, 56, 57], str [48, 49, 50, 51, 52, 53]]]) fun (l103 : List (List ByteArray)) => chk (decide (l103.length * 24 ≤ 140737488355328)) (J (w64 (p101 + (1 : Int))) l103))
def spec_l21DrawSegs_L42 {R : Type} (n : Nat) (kx13 : List (List ByteArray) → Option R) (J : Int → List (List ByteArray) → Option R) (i95 : Int) (p96 : Int) (p97 : Sl1Cur) (out98 : List SSeg) (s99 : ByteArray) (c100 : List (List ByteArray)) : Option R :=
  (bif (decide (p96 < (20 : Int))) then spec_l21DrawSegs_k3 n kx13 J i95 p96 p97 out98 s99 c100 else kx13 c100)
def spec_l21DrawSegs_k4 {R : Type} (n : Nat) (kx11 : List SSeg → Option R) (J : Int → List SSeg → Option R) (i93 : Int) (p91 : Sl1Cur) (c94 : List SSeg) : Option R :=
  loopN (fun (x : Int × List (List ByteArray)) J' => spec_l21DrawSegs_L42 n (fun c104 => (bd (c94 ++ [(⟨str [66, 73, 71], c104⟩ : SSeg)]) fun (l105 : List SSeg) => chk (decide (l105.length * 40 ≤ 140737488355328)) (J (w64 (i93 + (1 : Int))) l105))) (fun p106 c107 => J' (p106, c107)) i93 x.1 p91 c94 (str [66, 73, 71]) x.2) n ((0 : Int), [])
def spec_l21DrawSegs_L38 {R : Type} (n : Nat) (kx11 : List SSeg → Option R) (J : Int → List SSeg → Option R) (i90 : Int) (p91 : Sl1Cur) (c92 : List SSeg) : Option R :=
  (bif (decide (i90 < (2 : Int))) then spec_l21DrawSegs_k4 n kx11 J i90 p91 c92 else kx11 c92)
def spec_l21DrawSegs (n : Nat) (c0 : Sl1Cur) : Option (List SSeg × Sl1Cur) :=
  (spec_l1Below n c0 (6 : Int)).bind fun r1 => loopN (fun (x : Int × Sl1Cur × List SSeg) J' => spec_l21DrawSegs_L3 n (fun p45 out46 => (spec_l1Below n p45 (40 : Int)).bind fun r47 => (bif (decide (r47.1 = (0 : Int))) then (spec_l1Pick n r47.2 [str [], str [65, 66], str [65, 98, 67], str [65, 66, 67, 68], str [65, 49, 67]]).bind fun r48 => (bd (out46 ++ [(⟨r48.1, []⟩ : SSeg)]) fun (l49 : List SSeg) => chk (decide (l49.length * 40 ≤ 140737488355328)) (some (l49, r48.2))) else (bif (decide (r47.1 = (1 : Int))) then (spec_l1PickInt n r47.2 [(20 : Int), (21 : Int)]).bind fun r52 => chk (decide ((0 : Int) ≤ r52.1)) (chk (decide (r52.1 ≤ r52.1)) (chk (decide (r52.1 ≤ 9223372036854775807 ∧ r52.1 * (24 : Int) ≤ 281474976710656)) ((bd (out46 ++ [(⟨str [66, 73, 71], (List.replicate r52.1.toNat [])⟩ : SSeg)]) fun (l53 : List SSeg) => chk (decide (l53.length * 40 ≤ 140737488355328)) (loopN (fun (x : Int × List SSeg) J' => spec_l21DrawSegs_L22 n (fun out63 => some (out63, r52.2)) (fun p66 out67 => J' (p66, out67)) x.1 x.2 r52.2) n ((0 : Int), l53)))))) else (bif (decide (r47.1 = (2 : Int))) then (spec_l1PickInt n r47.2 [(0 : Int), (10 : Int), (11 : Int)]).bind fun r68 => chk (decide ((0 : Int) ≤ r68.1)) (chk (decide (r68.1 ≤ r68.1)) (chk (decide (r68.1 ≤ 9223372036854775807 ∧ r68.1 * (16 : Int) ≤ 281474976710656)) ((bd (out46 ++ [(⟨str [66, 73, 71], [(List.replicate r68.1.toNat (str []))]⟩ : SSeg)]) fun (l69 : List SSeg) => chk (decide (l69.length * 40 ≤ 140737488355328)) (some (l69, r68.2)))))) else (bif (decide (r47.1 = (3 : Int))) then (spec_l1PickInt n r47.2 [(31 : Int), (32 : Int), (126 : Int), (127 : Int), (200 : Int)]).bind fun r72 => (bd (out46 ++ [(⟨str [79, 68, 68], [[(bstr [(wu8 r72.1)])]]⟩ : SSeg)]) fun (l73 : List SSeg) => chk (decide (l73.length * 40 ≤ 140737488355328)) (some (l73, r72.2))) else (bif (decide (r47.1 = (4 : Int))) then (spec_l1Below n r47.2 (2 : Int)).bind fun r76 => (bd (w64 ((60 : Int) + r76.1)) fun (v77 : Int) => loopN (fun (x : Int × List SSeg) J' => spec_l21DrawSegs_L32 n (fun out85 => some (out85, r76.2)) (fun i88 c89 => J' (i88, c89)) x.1 x.2 r76.2) n (v77, [])) else (bif (decide (r47.1 = (5 : Int))) then loopN (fun (x : Int × List SSeg) J' => spec_l21DrawSegs_L38 n (fun out108 => (spec_l1Below n r47.2 (3 : Int)).bind fun r109 => (bd (w64 ((19 : Int) + r109.1)) fun (v110 : Int) => chk (decide ((0 : Int) ≤ v110)) (chk (decide (v110 ≤ (23 : Int))) ((bd (out108 ++ [(⟨str [69, 78, 68], [[((str [48, 49, 50, 51, 52, 53, 54, 55, 56, 57, 48, 49, 50, 51, 52, 53, 54, 55, 56, 57, 48, 49, 50]).extract 0 v110.toNat)], [str []]]⟩ : SSeg)]) fun (l111 : List SSeg) => chk (decide (l111.length * 40 ≤ 140737488355328)) (some (l111, r109.2))))))) (fun i114 c115 => J' (i114, c115)) x.1 r47.2 x.2) n ((0 : Int), []) else some (out46, r47.2)))))))) (fun i118 p119 out120 => J' (i118, p119, out120)) x.1 x.2.1 x.2.2) n (r1.1, r1.2, [])
def spec_DrawWriteSegs (n : Nat) (code0 : List Int) : Option (List SSeg) :=
  (spec_l1New n code0).bind fun r1 => (spec_l21DrawSegs n r1).bind fun r2 => some (r2.1)
def impl_capital (n : Nat) (c0 : Int) : Option Bool :=
  (bif (decide (c0 ≥ (65 : Int))) then some ((decide (c0 ≤ (90 : Int)))) else some (false))
def impl_in (n : Nat) (n0 : Int) (least1 : Int) (most2 : Int) : Option Bool :=
  (bif (decide (n0 ≥ least1)) then some ((decide (n0 ≤ most2))) else some (false))
def impl_plain (n : Nat) (c0 : Int) : Option Bool :=
  (bif (decide (c0 ≥ (32 : Int))) then some ((decide (c0 ≤ (126 : Int)))) else some (false))
def impl_ediText_L4 {R : Type} (n : Nat) (kx0 : Option R) (kxr : Bool → Option R) (J : Int → Option R) (s1 : ByteArray) (t2 : Int) (t3 : Int) : Option R :=
  (bif (decide (t3 < t2)) then ix t3 s1.size ((impl_plain n (byteAt s1 t3.toNat)).bind fun r7 => (bif (!r7) then kxr false else J (w64 (t3 + (1 : Int))))) else kx0)
def impl_ediText (n : Nat) (s0 : ByteArray) : Option Bool :=
  (bif (decide ((s0.size : Int) > (40 : Int))) then some (false) else loopN (fun (x : Int) J' => impl_ediText_L4 n (some (true)) (fun t11 => some (t11)) J' s0 (s0.size : Int) x) n ((0 : Int)))
def impl_segRight_1 (n : Nat) (t0 : ByteArray) : Option Bool :=
  (impl_ediText n t0).bind fun r1 => some ((!r1))
def slices_IndexFunc_string_string__impl_segRight_1_L2 {R : Type} (n : Nat) (kx0 : Option R) (kxr : Int → Option R) (J : Int → Option R) (s1 : List ByteArray) (t2 : Int) (t3 : Int) : Option R :=
  (bif (decide (t3 < t2)) then ix t3 s1.length ((impl_segRight_1 n (s1.getD t3.toNat (str []))).bind fun r7 => (bif r7 then kxr t3 else J (w64 (t3 + (1 : Int))))) else kx0)
def slices_IndexFunc_string_string__impl_segRight_1 (n : Nat) (s0 : List ByteArray) : Option Int :=
  loopN (fun (x : Int) J' => slices_IndexFunc_string_string__impl_segRight_1_L2 n (some ((-1 : Int))) (fun t9 => some (t9)) J' s0 (s0.length : Int) x) n ((0 : Int))
def slices_ContainsFunc_string_string__impl_segRight_1 (n : Nat) (s0 : List ByteArray) : Option Bool :=
  (slices_IndexFunc_string_string__impl_segRight_1 n s0).bind fun r1 => some ((decide (r1 ≥ (0 : Int))))
def impl_segRight_L4 {R : Type} (n : Nat) (kx0 : Option R) (kxr : Bool → Option R) (J : Int → Option R) (t5 : List (List ByteArray)) (t6 : Int) (t7 : Int) : Option R :=
  (bif (decide (t7 < t6)) then ix t7 t5.length ((impl_in n ((t5.getD t7.toNat []).length : Int) (1 : Int) (10 : Int)).bind fun r16 => (bif (!r16) then kxr false else (slices_ContainsFunc_string_string__impl_segRight_1 n (t5.getD t7.toNat [])).bind fun r18 => (bif r18 then kxr false else J (w64 (t7 + (1 : Int)))))) else kx0)
def impl_segRight (n : Nat) (s0 : SSeg) : Option Bool :=
  (bif (!(decide ((s0.Tag.size : Int) = (3 : Int)))) then some (false) else ix (0 : Int) s0.Tag.size ((impl_capital n (byteAt s0.Tag 0)).bind fun r1 => (bif (!r1) then some (false) else ix (1 : Int) s0.Tag.size ((impl_capital n (byteAt s0.Tag 1)).bind fun r2 => (bif (!r2) then some (false) else ix (2 : Int) s0.Tag.size ((impl_capital n (byteAt s0.Tag 2)).bind fun r3 => (bif (!r3) then some (false) else (bif (decide ((s0.Parts.length : Int) > (20 : Int))) then some (false) else loopN (fun (x : Int) J' => impl_segRight_L4 n (some (true)) (fun t26 => some (t26)) J' s0.Parts (s0.Parts.length : Int) x) n ((0 : Int))))))))))
def impl_SegsOk_1 (n : Nat) (s0 : SSeg) : Option Bool :=
  (impl_segRight n s0).bind fun r1 => some ((!r1))
def sIndex_SegsOk_1_L2 {R : Type} (n : Nat) (kx0 : Option R) (kxr : Int → Option R) (J : Int → Option R) (s1 : List SSeg) (t2 : Int) (t3 : Int) : Option R :=
  (bif (decide (t3 < t2)) then ix t3 s1.length ((bd (s1.getD t3.toNat dSSeg) fun (e8 : SSeg) => (impl_SegsOk_1 n e8).bind fun r9 => (bif r9 then kxr t3 else J (w64 (t3 + (1 : Int)))))) else kx0)
def sIndex_SegsOk_1 (n : Nat) (s0 : List SSeg) : Option Int :=
  loopN (fun (x : Int) J' => sIndex_SegsOk_1_L2 n (some ((-1 : Int))) (fun t11 => some (t11)) J' s0 (s0.length : Int) x) n ((0 : Int))
def sContains_SegsOk_1 (n : Nat) (s0 : List SSeg) : Option Bool :=
  (sIndex_SegsOk_1 n s0).bind fun r1 => some ((decide (r1 ≥ (0 : Int))))
def impl_written (n : Nat) (l0 : List SSeg) : Option ByteArray :=
  wroteO (fun x => x.Tag) (fun x => x.Parts) l0
def impl_SegsOk (n : Nat) (list0 : List SSeg) : Option Bool :=
  (bif (decide ((list0.length : Int) ≤ (60 : Int))) then (sContains_SegsOk_1 n list0).bind fun r1 => (bif (!r1) then (impl_written n list0).bind fun r2 => some ((decide ((r2.size : Int) ≤ (2000 : Int)))) else some (false)) else some (false))
def impl_WriteSegs (n : Nat) (list0 : List SSeg) : Option (ByteArray × Bool) :=
  (impl_SegsOk n list0).bind fun r1 => (bif (!r1) then some (str [], false) else (impl_written n list0).bind fun r3 => some (r3, true))
def spec_l1In (n : Nat) (x0 : Int) (a1 : Int) (b2 : Int) : Option Bool :=
  (bif (decide (x0 ≥ a1)) then some ((decide (x0 ≤ b2))) else some (false))
def spec_l21Seg_L4 {R : Type} (n : Nat) (kx0 : Option R) (kxr : Bool → Option R) (J : Int → Option R) (i2 : Int) (s3 : SSeg) : Option R :=
  (bif (decide (i2 < (3 : Int))) then ix i2 s3.Tag.size ((spec_l1In n (w64 (byteAt s3.Tag i2.toNat)) (65 : Int) (90 : Int)).bind fun r7 => (bif (!r7) then kxr false else J (w64 (i2 + (1 : Int))))) else kx0)
def spec_l21Seg_L18 {R : Type} (n : Nat) (kx6 : Option R) (kxr : Bool → Option R) (J : Int → Option R) (i18 : Int) (k19 : Int) (t20 : ByteArray) (j21 : Int) (s22 : SSeg) : Option R :=
  (bif (decide (j21 < (t20.size : Int))) then ix j21 t20.size ((spec_l1In n (w64 (byteAt t20 j21.toNat)) (32 : Int) (126 : Int)).bind fun r26 => (bif (!r26) then kxr false else J (w64 (j21 + (1 : Int))))) else kx6)
def spec_l21Seg_k0 {R : Type} (n : Nat) (kx4 : Option R) (kxr : Bool → Option R) (J : Int → Option R) (i14 : Int) (k17 : Int) (s16 : SSeg) : Option R :=
  ix i14 s16.Parts.length (ix k17 ((s16.Parts.getD i14.toNat []).length) (loopN (fun (x : Int) J' => spec_l21Seg_L18 n ((bif (decide ((((s16.Parts.getD i14.toNat []).getD k17.toNat (str [])).size : Int) > (40 : Int))) then kxr false else J (w64 (k17 + (1 : Int))))) (fun t29 => kxr t29) J' i14 k17 ((s16.Parts.getD i14.toNat []).getD k17.toNat (str [])) x s16) n ((0 : Int))))
def spec_l21Seg_L14 {R : Type} (n : Nat) (kx4 : Option R) (kxr : Bool → Option R) (J : Int → Option R) (i14 : Int) (k15 : Int) (s16 : SSeg) : Option R :=
  ix i14 s16.Parts.length ((bif (decide (k15 < ((s16.Parts.getD i14.toNat []).length : Int))) then spec_l21Seg_k0 n kx4 kxr J i14 k15 s16 else kx4))
def spec_l21Seg_k1 {R : Type} (n : Nat) (kx2 : Option R) (kxr : Bool → Option R) (J : Int → Option R) (i11 : Int) (s10 : SSeg) : Option R :=
  ix i11 s10.Parts.length ((spec_l1In n ((s10.Parts.getD i11.toNat []).length : Int) (1 : Int) (10 : Int)).bind fun r12 => (bif (!r12) then kxr false else loopN (fun (x : Int) J' => spec_l21Seg_L14 n (J (w64 (i11 + (1 : Int)))) (fun t35 => kxr t35) J' i11 x s10) n ((0 : Int))))
def spec_l21Seg_L9 {R : Type} (n : Nat) (kx2 : Option R) (kxr : Bool → Option R) (J : Int → Option R) (i9 : Int) (s10 : SSeg) : Option R :=
  (bif (decide (i9 < (s10.Parts.length : Int))) then spec_l21Seg_k1 n kx2 kxr J i9 s10 else kx2)
def spec_l21Seg (n : Nat) (s0 : SSeg) : Option Bool :=
  (bif (!(decide ((s0.Tag.size : Int) = (3 : Int)))) then some (false) else (bif (decide ((s0.Parts.length : Int) > (20 : Int))) then some (false) else loopN (fun (x : Int) J' => spec_l21Seg_L4 n (loopN (fun (x : Int) J' => spec_l21Seg_L9 n (some (true)) (fun t45 => some (t45)) J' x s0) n ((0 : Int))) (fun t47 => some (t47)) J' x s0) n ((0 : Int))))
def spec_l21Mark (n : Nat) (b0 : Int) : Option Bool :=
  (bif (decide (b0 = (43 : Int))) then some (true) else (bif (decide (b0 = (58 : Int))) then some (true) else (bif (decide (b0 = (39 : Int))) then some (true) else some ((decide (b0 = (63 : Int)))))))
def spec_l21Write_k0 {R : Type} (n : Nat) (kx6 : List Int → Option R) (J : Int → List Int → Option R) (list25 : List SSeg) (i26 : Int) (p27 : Int) (k28 : Int) (t29 : ByteArray) (j32 : Int) (out33 : List Int) : Option R :=
  ix j32 t29.size ((spec_l21Mark n (byteAt t29 j32.toNat)).bind fun r34 => (bif r34 then chk (decide ((out33 ++ [(63 : Int)]).length * 1 ≤ 140737488355328)) (ix j32 t29.size ((bd ((out33 ++ [(63 : Int)]) ++ [(byteAt t29 j32.toNat)]) fun (l40 : List Int) => chk (decide (l40.length * 1 ≤ 140737488355328)) (J (w64 (j32 + (1 : Int))) l40)))) else ix j32 t29.size ((bd (out33 ++ [(byteAt t29 j32.toNat)]) fun (l48 : List Int) => chk (decide (l48.length * 1 ≤ 140737488355328)) (J (w64 (j32 + (1 : Int))) l48)))))
def spec_l21Write_L18 {R : Type} (n : Nat) (kx6 : List Int → Option R) (J : Int → List Int → Option R) (list25 : List SSeg) (i26 : Int) (p27 : Int) (k28 : Int) (t29 : ByteArray) (j30 : Int) (out31 : List Int) : Option R :=
  (bif (decide (j30 < (t29.size : Int))) then spec_l21Write_k0 n kx6 J list25 i26 p27 k28 t29 j30 out31 else kx6 out31)
def spec_l21Write_k1 {R : Type} (n : Nat) (kx4 : List Int → Option R) (J : Int → List Int → Option R) (list14 : List SSeg) (i15 : Int) (p16 : Int) (k22 : Int) (out23 : List Int) : Option R :=
  chk (decide ((out23 ++ [(43 : Int)]).length * 1 ≤ 140737488355328)) (ix i15 list14.length ((bd (list14.getD i15.toNat dSSeg) fun (e24 : SSeg) => ix p16 e24.Parts.length (ix k22 ((e24.Parts.getD p16.toNat []).length) (loopN (fun (x : Int × List Int) J' => spec_l21Write_L18 n (fun out51 => J (w64 (k22 + (1 : Int))) out51) (fun j54 out55 => J' (j54, out55)) list14 i15 p16 k22 ((e24.Parts.getD p16.toNat []).getD k22.toNat (str [])) x.1 x.2) n ((0 : Int), (out23 ++ [(43 : Int)])))))))
def spec_l21Write_k2 {R : Type} (n : Nat) (kx4 : List Int → Option R) (J : Int → List Int → Option R) (list14 : List SSeg) (i15 : Int) (p16 : Int) (k56 : Int) (out57 : List Int) : Option R :=
  chk (decide ((out57 ++ [(58 : Int)]).length * 1 ≤ 140737488355328)) (ix i15 list14.length ((bd (list14.getD i15.toNat dSSeg) fun (e58 : SSeg) => ix p16 e58.Parts.length (ix k56 ((e58.Parts.getD p16.toNat []).length) (loopN (fun (x : Int × List Int) J' => spec_l21Write_L18 n (fun out59 => J (w64 (k56 + (1 : Int))) out59) (fun j62 out63 => J' (j62, out63)) list14 i15 p16 k56 ((e58.Parts.getD p16.toNat []).getD k56.toNat (str [])) x.1 x.2) n ((0 : Int), (out57 ++ [(58 : Int)])))))))
def spec_l21Write_L10 {R : Type} (n : Nat) (kx4 : List Int → Option R) (J : Int → List Int → Option R) (list14 : List SSeg) (i15 : Int) (p16 : Int) (k17 : Int) (out18 : List Int) : Option R :=
  ix i15 list14.length ((bd (list14.getD i15.toNat dSSeg) fun (e19 : SSeg) => ix p16 e19.Parts.length ((bif (decide (k17 < ((e19.Parts.getD p16.toNat []).length : Int))) then (bif (decide (k17 = (0 : Int))) then spec_l21Write_k1 n kx4 J list14 i15 p16 k17 out18 else spec_l21Write_k2 n kx4 J list14 i15 p16 k17 out18) else kx4 out18))))
def spec_l21Write_L7 {R : Type} (n : Nat) (kx2 : List Int → Option R) (J : Int → List Int → Option R) (list7 : List SSeg) (i8 : Int) (p9 : Int) (out10 : List Int) : Option R :=
  ix i8 list7.length ((bd (list7.getD i8.toNat dSSeg) fun (e11 : SSeg) => (bif (decide (p9 < (e11.Parts.length : Int))) then loopN (fun (x : Int × List Int) J' => spec_l21Write_L10 n (fun out71 => J (w64 (p9 + (1 : Int))) out71) (fun k72 out73 => J' (k72, out73)) list7 i8 p9 x.1 x.2) n ((0 : Int), out10) else kx2 out10)))
def spec_l21Write_k3 {R : Type} (n : Nat) (kx0 : List Int → Option R) (J : Int → List Int → Option R) (list1 : List SSeg) (i4 : Int) (out5 : List Int) : Option R :=
  ix i4 list1.length ((bd (list1.getD i4.toNat dSSeg) fun (e6 : SSeg) => chk (decide ((out5 ++ (strb e6.Tag)).length * 1 ≤ 140737488355328)) (loopN (fun (x : Int × List Int) J' => spec_l21Write_L7 n (fun out74 => chk (decide ((out74 ++ [(39 : Int)]).length * 1 ≤ 140737488355328)) (J (w64 (i4 + (1 : Int))) (out74 ++ [(39 : Int)]))) (fun p75 out76 => J' (p75, out76)) list1 i4 x.1 x.2) n ((0 : Int), (out5 ++ (strb e6.Tag))))))
def spec_l21Write_L3 {R : Type} (n : Nat) (kx0 : List Int → Option R) (J : Int → List Int → Option R) (list1 : List SSeg) (i2 : Int) (out3 : List Int) : Option R :=
  (bif (decide (i2 < (list1.length : Int))) then spec_l21Write_k3 n kx0 J list1 i2 out3 else kx0 out3)
def spec_l21Write (n : Nat) (list0 : List SSeg) : Option (List Int) :=
  loopN (fun (x : Int × List Int) J' => spec_l21Write_L3 n (fun out77 => some (out77)) (fun i78 out79 => J' (i78, out79)) list0 x.1 x.2) n ((0 : Int), [])
def spec_SegsOk_L4 {R : Type} (n : Nat) (kx0 : Option R) (kxr : Bool → Option R) (J : Int → Option R) (list1 : List SSeg) (i2 : Int) : Option R :=
  (bif (decide (i2 < (list1.length : Int))) then ix i2 list1.length ((bd (list1.getD i2.toNat dSSeg) fun (e7 : SSeg) => (spec_l21Seg n e7).bind fun r8 => (bif (!r8) then kxr false else J (w64 (i2 + (1 : Int)))))) else kx0)
def spec_SegsOk (n : Nat) (list0 : List SSeg) : Option Bool :=
  (bif (decide ((list0.length : Int) > (60 : Int))) then some (false) else loopN (fun (x : Int) J' => spec_SegsOk_L4 n ((spec_l21Write n list0).bind fun r13 => some ((decide ((r13.length : Int) ≤ (2000 : Int))))) (fun t14 => some (t14)) J' list0 x) n ((0 : Int)))
def impl_ReadSegs_1 (n : Nat) (a0 : SSeg) (a1 : List Int) : Option (SSeg × List Int) :=
  (bd (w64 ((a0.Parts.length : Int) - (1 : Int))) fun (v1 : Int) => (bif (decide (v1 ≥ (0 : Int))) then ix v1 a0.Parts.length (chk (decide (v1.toNat < a0.Parts.length)) (chk (decide (v1.toNat < a0.Parts.length)) (chk (decide (((a0.Parts.getD v1.toNat []) ++ [(bstr a1)]).length * 16 ≤ 140737488355328)) (ix v1 a0.Parts.length (chk (decide (v1.toNat < a0.Parts.length)) (chk (decide (v1.toNat = v1.toNat)) ((bd (a0.Parts.set v1.toNat ((a0.Parts.getD v1.toNat []) ++ [(bstr a1)])) fun (l2 : List (List ByteArray)) => some ((⟨a0.Tag, l2⟩ : SSeg), []))))))))) else some (a0, a1)))
def impl_marked (n : Nat) (c0 : Int) : Option Bool :=
  (bif (decide (c0 = (43 : Int))) then some (true) else (bif (decide (c0 = (58 : Int))) then some (true) else (bif (decide (c0 = (39 : Int))) then some (true) else some ((decide (c0 = (63 : Int)))))))
def impl_own_string (n : Nat) (l0 : List ByteArray) : Option (List ByteArray) :=
  chk (decide ((0 : Int) ≤ (l0.length : Int))) (chk (decide ((l0.length : Int) ≤ 9223372036854775807 ∧ (l0.length : Int) * (16 : Int) ≤ 281474976710656)) (chk (decide (l0.length * 16 ≤ 140737488355328)) (some (l0))))
def impl_own_string_f142 (n : Nat) (l0 : List (List ByteArray)) : Option (List (List ByteArray)) :=
  chk (decide ((0 : Int) ≤ (l0.length : Int))) (chk (decide ((l0.length : Int) ≤ 9223372036854775807 ∧ (l0.length : Int) * (24 : Int) ≤ 281474976710656)) (chk (decide (l0.length * 24 ≤ 140737488355328)) (some (l0))))
def impl_own_impl_Seg (n : Nat) (l0 : List SSeg) : Option (List SSeg) :=
  chk (decide ((0 : Int) ≤ (l0.length : Int))) (chk (decide ((l0.length : Int) ≤ 9223372036854775807 ∧ (l0.length : Int) * (40 : Int) ≤ 281474976710656)) (chk (decide (l0.length * 40 ≤ 140737488355328)) (some (l0))))
def impl_ReadSegs_k0 {R : Type} (n : Nat) (kx2 : Int → ByteArray → List (List ByteArray) → Option R) (kxr : Int → Int → List SSeg → Option R) (J : Int → Bool → ByteArray → List (List ByteArray) → List Int → Option R) (text26 : ByteArray) (n27 : Int) (at104 : Int) (ended105 : Bool) (c106 : Int) (list30 : List SSeg) (s107 : ByteArray) (c108 : List (List ByteArray)) (c109 : List Int) : Option R :=
  (bif (decide (c106 = (63 : Int))) then (bd (w64 (at104 + (1 : Int))) fun (v110 : Int) => ix v110 text26.size ((bd (c109 ++ [(byteAt text26 v110.toNat)]) fun (l124 : List Int) => chk (decide (l124.length * 1 ≤ 140737488355328)) (J (w64 (v110 + (1 : Int))) ended105 s107 c108 l124)))) else ix at104 text26.size ((bd (c109 ++ [(byteAt text26 at104.toNat)]) fun (l135 : List Int) => chk (decide (l135.length * 1 ≤ 140737488355328)) ((bd (w64 (at104 + (1 : Int))) fun (v141 : Int) => J v141 ended105 s107 c108 l135)))))
def impl_ReadSegs_k1 {R : Type} (n : Nat) (kx2 : Int → ByteArray → List (List ByteArray) → Option R) (kxr : Int → Int → List SSeg → Option R) (J : Int → Bool → ByteArray → List (List ByteArray) → List Int → Option R) (text26 : ByteArray) (n27 : Int) (at39 : Int) (ended40 : Bool) (list30 : List SSeg) (s41 : ByteArray) (c42 : List (List ByteArray)) (c43 : List Int) : Option R :=
  ix at39 text26.size ((bif (decide ((byteAt text26 at39.toNat) = (39 : Int))) then (impl_ReadSegs_1 n (⟨s41, c42⟩ : SSeg) c43).bind fun r44 => J (w64 (at39 + (1 : Int))) true r44.1.Tag r44.1.Parts r44.2 else (bif (decide ((byteAt text26 at39.toNat) = (43 : Int))) then (impl_ReadSegs_1 n (⟨s41, c42⟩ : SSeg) c43).bind fun r49 => (bif (decide ((r49.1.Parts.length : Int) = (20 : Int))) then kxr (4 : Int) at39 [] else chk (decide ((r49.1.Parts ++ [[]]).length * 24 ≤ 140737488355328)) (J (w64 (at39 + (1 : Int))) ended40 r49.1.Tag (r49.1.Parts ++ [[]]) r49.2)) else (bif (decide ((byteAt text26 at39.toNat) = (58 : Int))) then (bd (w64 ((c42.length : Int) - (1 : Int))) fun (v65 : Int) => ix v65 c42.length (chk (decide (v65.toNat < c42.length)) (chk (decide (v65.toNat < c42.length)) ((bif (decide (((c42.getD v65.toNat []).length : Int) = (9 : Int))) then kxr (4 : Int) at39 [] else (impl_ReadSegs_1 n (⟨s41, c42⟩ : SSeg) c43).bind fun r77 => J (w64 (at39 + (1 : Int))) ended40 r77.1.Tag r77.1.Parts r77.2))))) else (impl_plain n (byteAt text26 at39.toNat)).bind fun r83 => (bif (!r83) then kxr (3 : Int) at39 [] else (bif (decide ((byteAt text26 at39.toNat) = (63 : Int))) then (bif (decide ((w64 (at39 + (1 : Int))) = n27)) then kxr (3 : Int) at39 [] else ix (w64 (at39 + (1 : Int))) text26.size ((impl_marked n (byteAt text26 ((w64 (at39 + (1 : Int))).toNat))).bind fun r96 => (bif (!r96) then kxr (3 : Int) at39 [] else (bif (decide ((c43.length : Int) = (40 : Int))) then kxr (4 : Int) at39 [] else impl_ReadSegs_k0 n kx2 kxr J text26 n27 at39 ended40 (byteAt text26 at39.toNat) list30 s41 c42 c43)))) else (bif (decide ((c43.length : Int) = (40 : Int))) then kxr (4 : Int) at39 [] else impl_ReadSegs_k0 n kx2 kxr J text26 n27 at39 ended40 (byteAt text26 at39.toNat) list30 s41 c42 c43)))))))
def impl_ReadSegs_L16 {R : Type} (n : Nat) (kx2 : Int → ByteArray → List (List ByteArray) → Option R) (kxr : Int → Int → List SSeg → Option R) (J : Int → Bool → ByteArray → List (List ByteArray) → List Int → Option R) (text26 : ByteArray) (n27 : Int) (at28 : Int) (ended29 : Bool) (list30 : List SSeg) (s31 : ByteArray) (c32 : List (List ByteArray)) (c33 : List Int) : Option R :=
  (bif (!ended29) then (bif (decide (at28 = n27)) then kxr (5 : Int) n27 [] else impl_ReadSegs_k1 n kx2 kxr J text26 n27 at28 ended29 list30 s31 c32 c33) else kx2 at28 s31 c32)
def impl_ReadSegs_k2 {R : Type} (n : Nat) (kx5 : List (List ByteArray) → Option R) (J : Int → List (List ByteArray) → Option R) (text174 : ByteArray) (n175 : Int) (at176 : Int) (t177 : Int) (t182 : Int) (list179 : List SSeg) (s180 : ByteArray) (c183 : List (List ByteArray)) : Option R :=
  ix t182 c183.length (chk (decide (t182.toNat < c183.length)) (chk (decide (t182.toNat < c183.length)) ((impl_own_string n (c183.getD t182.toNat [])).bind fun r184 => ix t182 c183.length (chk (decide (t182.toNat < c183.length)) (J (w64 (t182 + (1 : Int))) (c183.set t182.toNat r184))))))
def impl_ReadSegs_L41 {R : Type} (n : Nat) (kx5 : List (List ByteArray) → Option R) (J : Int → List (List ByteArray) → Option R) (text174 : ByteArray) (n175 : Int) (at176 : Int) (t177 : Int) (t178 : Int) (list179 : List SSeg) (s180 : ByteArray) (c181 : List (List ByteArray)) : Option R :=
  (bif (decide (t178 < t177)) then impl_ReadSegs_k2 n kx5 J text174 n175 at176 t177 t178 list179 s180 c181 else kx5 c181)
def impl_ReadSegs_k3 {R : Type} (n : Nat) (kx0 : List SSeg → Option R) (kxr : Int → Int → List SSeg → Option R) (J : Int → List SSeg → Option R) (text2 : ByteArray) (n3 : Int) (at24 : Int) (list25 : List SSeg) : Option R :=
  chk (decide ((0 : Int) ≤ (w64 (at24 + (3 : Int))))) (chk (decide ((w64 (at24 + (3 : Int))) ≤ (text2.size : Int))) (chk (decide ((0 : Int) ≤ at24)) (chk (decide (at24 ≤ (w64 (at24 + (3 : Int))))) (loopN (fun (x : Int × Bool × ByteArray × List (List ByteArray) × List Int) J' => impl_ReadSegs_L16 n (fun at171 s172 c173 => loopN (fun (x : Int × List (List ByteArray)) J' => impl_ReadSegs_L41 n (fun c185 => (impl_own_string_f142 n c185).bind fun r186 => (bd (list25 ++ [(⟨s172, r186⟩ : SSeg)]) fun (l187 : List SSeg) => chk (decide (l187.length * 40 ≤ 140737488355328)) (J at171 l187))) (fun t188 c189 => J' (t188, c189)) text2 n3 at171 (c173.length : Int) x.1 list25 s172 x.2) n ((0 : Int), c173)) (fun t190 t191 t192 => kxr t190 t191 t192) (fun at193 ended194 s195 c196 c197 => J' (at193, ended194, s195, c196, c197)) text2 n3 x.1 x.2.1 list25 x.2.2.1 x.2.2.2.1 x.2.2.2.2) n ((w64 (at24 + (3 : Int))), false, (text2.extract at24.toNat ((w64 (at24 + (3 : Int))).toNat)), [], [])))))
def impl_ReadSegs_k4 {R : Type} (n : Nat) (kx0 : List SSeg → Option R) (kxr : Int → Int → List SSeg → Option R) (J : Int → List SSeg → Option R) (text2 : ByteArray) (n3 : Int) (at8 : Int) (list9 : List SSeg) : Option R :=
  (bif (decide ((w64 (at8 + (4 : Int))) > n3)) then kxr (2 : Int) at8 [] else ix at8 text2.size ((impl_capital n (byteAt text2 at8.toNat)).bind fun r12 => (bif (!r12) then kxr (2 : Int) at8 [] else ix (w64 (at8 + (1 : Int))) text2.size ((impl_capital n (byteAt text2 ((w64 (at8 + (1 : Int))).toNat))).bind fun r15 => (bif (!r15) then kxr (2 : Int) at8 [] else ix (w64 (at8 + (2 : Int))) text2.size ((impl_capital n (byteAt text2 ((w64 (at8 + (2 : Int))).toNat))).bind fun r18 => (bif (!r18) then kxr (2 : Int) at8 [] else ix (w64 (at8 + (3 : Int))) text2.size ((bif (!(decide ((byteAt text2 ((w64 (at8 + (3 : Int))).toNat)) = (43 : Int)))) then ix (w64 (at8 + (3 : Int))) text2.size ((bif (!(decide ((byteAt text2 ((w64 (at8 + (3 : Int))).toNat)) = (39 : Int)))) then kxr (2 : Int) at8 [] else impl_ReadSegs_k3 n kx0 kxr J text2 n3 at8 list9)) else impl_ReadSegs_k3 n kx0 kxr J text2 n3 at8 list9)))))))))
def impl_ReadSegs_L6 {R : Type} (n : Nat) (kx0 : List SSeg → Option R) (kxr : Int → Int → List SSeg → Option R) (J : Int → List SSeg → Option R) (text2 : ByteArray) (n3 : Int) (at4 : Int) (list5 : List SSeg) : Option R :=
  (bif (decide (at4 < n3)) then (bif (decide ((list5.length : Int) = (60 : Int))) then kxr (4 : Int) at4 [] else impl_ReadSegs_k4 n kx0 kxr J text2 n3 at4 list5) else kx0 list5)
def impl_ReadSegs (n : Nat) (text0 : ByteArray) : Option (List SSeg × Int × Int) :=
  (bif (decide ((text0.size : Int) > (2000 : Int))) then some ([], (1 : Int), (0 : Int)) else loopN (fun (x : Int × List SSeg) J' => impl_ReadSegs_L6 n (fun list215 => (impl_own_impl_Seg n list215).bind fun r216 => some (r216, (0 : Int), (0 : Int))) (fun t217 t218 t219 => some (t219, t217, t218)) (fun at220 list221 => J' (at220, list221)) text0 (text0.size : Int) x.1 x.2) n ((0 : Int), []))
def spec_DrawReadSegs_k0 (n : Nat)  (t8 : Sl1Cur) (t9 : List Int) : Option ByteArray :=
  (spec_l1Below n t8 (40 : Int)).bind fun r10 => (bif (decide (r10.1 = (0 : Int))) then (bd (t9 ++ (strb (str [65, 66, 67, 43, 48, 49, 50, 51, 52, 53, 54, 55, 56, 57, 48, 49, 50, 51, 52, 53, 54, 55, 56, 57, 48, 49, 50, 51, 52, 53, 54, 55, 56, 57, 48, 49, 50, 51, 52, 53, 54, 55, 56, 57]))) fun (l11 : List Int) => chk (decide (l11.length * 1 ≤ 140737488355328)) ((spec_l1Pick n r10.2 [str [120, 39], str [63, 43, 39], str [39], str [63], str [63, 120]]).bind fun r12 => chk (decide ((l11 ++ (strb r12.1)).length * 1 ≤ 140737488355328)) (some ((bstr (l11 ++ (strb r12.1))))))) else (bif (decide (r10.1 = (1 : Int))) then (spec_l1Below n r10.2 (2 : Int)).bind fun r14 => (bd (w64 ((2000 : Int) + r14.1)) fun (v15 : Int) => chk (decide ((0 : Int) ≤ v15)) (chk (decide (v15 ≤ v15)) (chk (decide (v15 ≤ 9223372036854775807 ∧ v15 * (1 : Int) ≤ 281474976710656)) (some ((bstr (List.replicate v15.toNat (0 : Int)))))))) else (bif (decide (r10.1 = (2 : Int))) then (bd (t9 ++ (strb (str [65, 66, 67, 43, 49, 58, 50, 58, 51, 58, 52, 58, 53, 58, 54, 58, 55, 58, 56, 58, 57, 58, 49, 48]))) fun (l17 : List Int) => chk (decide (l17.length * 1 ≤ 140737488355328)) ((spec_l1Pick n r10.2 [str [58], str [39], str [43, 120, 39]]).bind fun r18 => chk (decide ((l17 ++ (strb r18.1)).length * 1 ≤ 140737488355328)) (some ((bstr (l17 ++ (strb r18.1))))))) else (bif (decide (r10.1 = (3 : Int))) then (bd (t9 ++ (strb (str [65, 66, 67, 43, 43, 43, 43, 43, 43, 43, 43, 43, 43, 43, 43, 43, 43, 43, 43, 43, 43, 43, 43]))) fun (l20 : List Int) => chk (decide (l20.length * 1 ≤ 140737488355328)) ((spec_l1Pick n r10.2 [str [43], str [39]]).bind fun r21 => chk (decide ((l20 ++ (strb r21.1)).length * 1 ≤ 140737488355328)) (some ((bstr (l20 ++ (strb r21.1))))))) else some ((bstr t9))))))
def spec_DrawReadSegs_k1 (n : Nat)  (b24 : Nat) (t25 : Sl1Cur) (t26 : List Int) : Option ByteArray :=
  (spec_l1Below n t25 (40 : Int)).bind fun r27 => (bif (decide (r27.1 = (0 : Int))) then chk (decide ((0 + b24) ≤ t26.length)) ((bd (((t26.drop 0).take b24) ++ (strb (str [65, 66, 67, 43, 48, 49, 50, 51, 52, 53, 54, 55, 56, 57, 48, 49, 50, 51, 52, 53, 54, 55, 56, 57, 48, 49, 50, 51, 52, 53, 54, 55, 56, 57, 48, 49, 50, 51, 52, 53, 54, 55, 56, 57]))) fun (l28 : List Int) => chk (decide (l28.length * 1 ≤ 140737488355328)) ((spec_l1Pick n r27.2 [str [120, 39], str [63, 43, 39], str [39], str [63], str [63, 120]]).bind fun r29 => chk (decide ((l28 ++ (strb r29.1)).length * 1 ≤ 140737488355328)) (some ((bstr (l28 ++ (strb r29.1)))))))) else (bif (decide (r27.1 = (1 : Int))) then (spec_l1Below n r27.2 (2 : Int)).bind fun r31 => (bd (w64 ((2000 : Int) + r31.1)) fun (v32 : Int) => chk (decide ((0 : Int) ≤ v32)) (chk (decide (v32 ≤ v32)) (chk (decide (v32 ≤ 9223372036854775807 ∧ v32 * (1 : Int) ≤ 281474976710656)) (some ((bstr (List.replicate v32.toNat (0 : Int)))))))) else (bif (decide (r27.1 = (2 : Int))) then chk (decide ((0 + b24) ≤ t26.length)) ((bd (((t26.drop 0).take b24) ++ (strb (str [65, 66, 67, 43, 49, 58, 50, 58, 51, 58, 52, 58, 53, 58, 54, 58, 55, 58, 56, 58, 57, 58, 49, 48]))) fun (l34 : List Int) => chk (decide (l34.length * 1 ≤ 140737488355328)) ((spec_l1Pick n r27.2 [str [58], str [39], str [43, 120, 39]]).bind fun r35 => chk (decide ((l34 ++ (strb r35.1)).length * 1 ≤ 140737488355328)) (some ((bstr (l34 ++ (strb r35.1)))))))) else (bif (decide (r27.1 = (3 : Int))) then chk (decide ((0 + b24) ≤ t26.length)) ((bd (((t26.drop 0).take b24) ++ (strb (str [65, 66, 67, 43, 43, 43, 43, 43, 43, 43, 43, 43, 43, 43, 43, 43, 43, 43, 43, 43, 43, 43, 43]))) fun (l37 : List Int) => chk (decide (l37.length * 1 ≤ 140737488355328)) ((spec_l1Pick n r27.2 [str [43], str [39]]).bind fun r38 => chk (decide ((l37 ++ (strb r38.1)).length * 1 ≤ 140737488355328)) (some ((bstr (l37 ++ (strb r38.1)))))))) else chk (decide ((0 + b24) ≤ t26.length)) (some ((bstr ((t26.drop 0).take b24))))))))
def spec_DrawReadSegs_k2 (n : Nat)  (t45 : Sl1Cur) (t46 : List Int) : Option ByteArray :=
  (spec_l1Below n t45 (40 : Int)).bind fun r47 => (bif (decide (r47.1 = (0 : Int))) then (bd (t46 ++ (strb (str [65, 66, 67, 43, 48, 49, 50, 51, 52, 53, 54, 55, 56, 57, 48, 49, 50, 51, 52, 53, 54, 55, 56, 57, 48, 49, 50, 51, 52, 53, 54, 55, 56, 57, 48, 49, 50, 51, 52, 53, 54, 55, 56, 57]))) fun (l48 : List Int) => chk (decide (l48.length * 1 ≤ 140737488355328)) ((spec_l1Pick n r47.2 [str [120, 39], str [63, 43, 39], str [39], str [63], str [63, 120]]).bind fun r49 => chk (decide ((l48 ++ (strb r49.1)).length * 1 ≤ 140737488355328)) (some ((bstr (l48 ++ (strb r49.1))))))) else (bif (decide (r47.1 = (1 : Int))) then (spec_l1Below n r47.2 (2 : Int)).bind fun r51 => (bd (w64 ((2000 : Int) + r51.1)) fun (v52 : Int) => chk (decide ((0 : Int) ≤ v52)) (chk (decide (v52 ≤ v52)) (chk (decide (v52 ≤ 9223372036854775807 ∧ v52 * (1 : Int) ≤ 281474976710656)) (some ((bstr (List.replicate v52.toNat (0 : Int)))))))) else (bif (decide (r47.1 = (2 : Int))) then (bd (t46 ++ (strb (str [65, 66, 67, 43, 49, 58, 50, 58, 51, 58, 52, 58, 53, 58, 54, 58, 55, 58, 56, 58, 57, 58, 49, 48]))) fun (l54 : List Int) => chk (decide (l54.length * 1 ≤ 140737488355328)) ((spec_l1Pick n r47.2 [str [58], str [39], str [43, 120, 39]]).bind fun r55 => chk (decide ((l54 ++ (strb r55.1)).length * 1 ≤ 140737488355328)) (some ((bstr (l54 ++ (strb r55.1))))))) else (bif (decide (r47.1 = (3 : Int))) then (bd (t46 ++ (strb (str [65, 66, 67, 43, 43, 43, 43, 43, 43, 43, 43, 43, 43, 43, 43, 43, 43, 43, 43, 43, 43, 43, 43]))) fun (l57 : List Int) => chk (decide (l57.length * 1 ≤ 140737488355328)) ((spec_l1Pick n r47.2 [str [43], str [39]]).bind fun r58 => chk (decide ((l57 ++ (strb r58.1)).length * 1 ≤ 140737488355328)) (some ((bstr (l57 ++ (strb r58.1))))))) else some ((bstr t46))))))
def spec_DrawReadSegs (n : Nat) (code0 : List Int) : Option ByteArray :=
  (spec_l1New n code0).bind fun r1 => (spec_l21DrawSegs n r1).bind fun r2 => (spec_l21Write n r2.1).bind fun r3 => (bif (decide ((r3.length : Int) > (0 : Int))) then (spec_l1Below n r2.2 (r3.length : Int)).bind fun r4 => (spec_l1Below n r4.2 (6 : Int)).bind fun r5 => (bif (decide (r5.1 = (0 : Int))) then (spec_l1Pick n r5.2 [str [43], str [58], str [39], str [63], str [65], str [97], (bstr [(31 : Int)]), (bstr [(200 : Int)])]).bind fun r6 => ix (0 : Int) r6.1.size (ix r4.1 r3.length (chk (decide (r4.1.toNat < r3.length)) ((bd (r3.set r4.1.toNat (byteAt r6.1 0)) fun (l7 : List Int) => spec_DrawReadSegs_k0 n  r6.2 l7)))) else (bif (decide (r5.1 = (1 : Int))) then chk (decide ((0 : Int) ≤ r4.1)) (chk (decide (r4.1 ≤ (r3.length : Int))) (spec_DrawReadSegs_k1 n  (r4.1.toNat - 0) r5.2 r3)) else (bif (decide (r5.1 = (2 : Int))) then chk (decide ((0 : Int) ≤ r4.1)) (chk (decide (r4.1 ≤ (r3.length : Int))) (chk (decide ((0 + (r4.1.toNat - 0)) ≤ r3.length)) ((bd ((r3.drop 0).take (r4.1.toNat - 0)) fun (l42 : List Int) => chk (decide (l42.length * 1 ≤ 140737488355328)) ((spec_l1Pick n r5.2 [str [63], str [39], str [58], str [43]]).bind fun r43 => chk (decide ((l42 ++ (strb r43.1)).length * 1 ≤ 140737488355328)) (chk (decide ((0 : Int) ≤ r4.1)) (chk (decide (r4.1 ≤ (r3.length : Int))) (chk (decide ((r4.1.toNat + (r3.length - r4.1.toNat)) ≤ r3.length)) ((bd ((l42 ++ (strb r43.1)) ++ ((r3.drop r4.1.toNat).take (r3.length - r4.1.toNat))) fun (l44 : List Int) => chk (decide (l44.length * 1 ≤ 140737488355328)) (spec_DrawReadSegs_k2 n  r43.2 l44))))))))))) else spec_DrawReadSegs_k0 n  r5.2 r3))) else spec_DrawReadSegs_k0 n  r2.2 r3)
def laws_FnSegments_k0 {R : Type} (n : Nat) (kx4 : Option R) (kxr : Bool → Option R) (J : Int → Option R) (code49 : List Int) (list50 : List SSeg) (back51 : List SSeg) (i52 : Int) (k53 : Int) (j56 : Int) : Option R :=
  ix i52 back51.length ((bd (back51.getD i52.toNat dSSeg) fun (e57 : SSeg) => ix k53 e57.Parts.length (ix j56 ((e57.Parts.getD k53.toNat []).length) (ix i52 list50.length ((bd (list50.getD i52.toNat dSSeg) fun (e58 : SSeg) => ix k53 e58.Parts.length (ix j56 ((e58.Parts.getD k53.toNat []).length) ((bif (!(decide (((e57.Parts.getD k53.toNat []).getD j56.toNat (str [])) = ((e58.Parts.getD k53.toNat []).getD j56.toNat (str []))))) then kxr false else J (w64 (j56 + (1 : Int))))))))))))
def laws_FnSegments_L22 {R : Type} (n : Nat) (kx4 : Option R) (kxr : Bool → Option R) (J : Int → Option R) (code49 : List Int) (list50 : List SSeg) (back51 : List SSeg) (i52 : Int) (k53 : Int) (j54 : Int) : Option R :=
  ix i52 list50.length ((bd (list50.getD i52.toNat dSSeg) fun (e55 : SSeg) => ix k53 e55.Parts.length ((bif (decide (j54 < ((e55.Parts.getD k53.toNat []).length : Int))) then laws_FnSegments_k0 n kx4 kxr J code49 list50 back51 i52 k53 j54 else kx4))))
def laws_FnSegments_k1 {R : Type} (n : Nat) (kx2 : Option R) (kxr : Bool → Option R) (J : Int → Option R) (code39 : List Int) (list40 : List SSeg) (back41 : List SSeg) (i42 : Int) (k45 : Int) : Option R :=
  ix i42 back41.length ((bd (back41.getD i42.toNat dSSeg) fun (e46 : SSeg) => ix k45 e46.Parts.length (ix i42 list40.length ((bd (list40.getD i42.toNat dSSeg) fun (e47 : SSeg) => ix k45 e47.Parts.length ((bif (!(decide (((e46.Parts.getD k45.toNat []).length : Int) = ((e47.Parts.getD k45.toNat []).length : Int)))) then kxr false else loopN (fun (x : Int) J' => laws_FnSegments_L22 n (J (w64 (k45 + (1 : Int)))) (fun t64 => kxr t64) J' code39 list40 back41 i42 k45 x) n ((0 : Int)))))))))
def laws_FnSegments_L17 {R : Type} (n : Nat) (kx2 : Option R) (kxr : Bool → Option R) (J : Int → Option R) (code39 : List Int) (list40 : List SSeg) (back41 : List SSeg) (i42 : Int) (k43 : Int) : Option R :=
  ix i42 list40.length ((bd (list40.getD i42.toNat dSSeg) fun (e44 : SSeg) => (bif (decide (k43 < (e44.Parts.length : Int))) then laws_FnSegments_k1 n kx2 kxr J code39 list40 back41 i42 k43 else kx2)))
def laws_FnSegments_k2 {R : Type} (n : Nat) (kx0 : Option R) (kxr : Bool → Option R) (J : Int → Option R) (code26 : List Int) (list27 : List SSeg) (back28 : List SSeg) (i30 : Int) : Option R :=
  ix i30 back28.length ((bd (back28.getD i30.toNat dSSeg) fun (e31 : SSeg) => ix i30 list27.length ((bd (list27.getD i30.toNat dSSeg) fun (e32 : SSeg) => (bif (!(decide (e31.Tag = e32.Tag))) then kxr false else ix i30 back28.length ((bd (back28.getD i30.toNat dSSeg) fun (e34 : SSeg) => ix i30 list27.length ((bd (list27.getD i30.toNat dSSeg) fun (e35 : SSeg) => (bif (!(decide ((e34.Parts.length : Int) = (e35.Parts.length : Int)))) then kxr false else loopN (fun (x : Int) J' => laws_FnSegments_L17 n (J (w64 (i30 + (1 : Int)))) (fun t74 => kxr t74) J' code26 list27 back28 i30 x) n ((0 : Int))))))))))))
def laws_FnSegments_L12 {R : Type} (n : Nat) (kx0 : Option R) (kxr : Bool → Option R) (J : Int → Option R) (code26 : List Int) (list27 : List SSeg) (back28 : List SSeg) (i29 : Int) : Option R :=
  (bif (decide (i29 < (list27.length : Int))) then laws_FnSegments_k2 n kx0 kxr J code26 list27 back28 i29 else kx0)
def laws_FnSegments_k3 (n : Nat)  (code0 : List Int) : Option Bool :=
  (spec_DrawReadSegs n code0).bind fun r76 => (impl_ReadSegs n r76).bind fun r77 => (bif (decide (r77.2.1 = (0 : Int))) then (impl_WriteSegs n r77.1).bind fun r78 => (bif r78.2 then some ((decide (r78.1 = r76))) else some (false)) else (bif (decide ((r77.1.length : Int) = (0 : Int))) then (bif (decide (r77.2.2 ≥ (0 : Int))) then some ((decide (r77.2.2 ≤ (r76.size : Int)))) else some (false)) else some (false)))
def laws_FnSegments_k4 (n : Nat)  (code0 : List Int) (list13 : List SSeg) (text14 : ByteArray) (ok15 : Bool) : Option Bool :=
  (bif ok15 then (impl_ReadSegs n text14).bind fun r16 => (bif (!(decide (r16.2.1 = (0 : Int)))) then some (false) else (bif (!(decide (r16.2.2 = (0 : Int)))) then some (false) else (bif (!(decide ((r16.1.length : Int) = (list13.length : Int)))) then some (false) else loopN (fun (x : Int) J' => laws_FnSegments_L12 n (laws_FnSegments_k3 n  code0) (fun t91 => some (t91)) J' code0 list13 r16.1 x) n ((0 : Int))))) else laws_FnSegments_k3 n  code0)
def laws_FnSegments (n : Nat) (code0 : List Int) : Option Bool :=
  (laws_big n code0).bind fun r1 => (bif r1 then some (true) else (spec_DrawWriteSegs n code0).bind fun r96 => (impl_WriteSegs n r96).bind fun r97 => (spec_SegsOk n r96).bind fun r98 => (bif (!(r97.2 == r98)) then some (false) else (impl_SegsOk n r96).bind fun r102 => (bif (!(r97.2 == r102)) then some (false) else laws_FnSegments_k4 n  code0 r96 r97.1 r97.2)))
def rng (a b x : Int) : Prop := a ≤ x ∧ x ≤ b
def wfSSeg (x : SSeg) : Prop := x.Tag.size ≤ 9223372036854775807 ∧ (x.Parts.length ≤ 9223372036854775807 ∧ ∀ y ∈ x.Parts, (y.length ≤ 9223372036854775807 ∧ ∀ z ∈ y, z.size ≤ 9223372036854775807))
def wfSl1Cur (x : Sl1Cur) : Prop := (x.b.length ≤ 9223372036854775807 ∧ ∀ y ∈ x.b, rng 0 255 y) ∧ rng (-9223372036854775808) 9223372036854775807 x.i ∧ rng (-9223372036854775808) 9223372036854775807 x.h
end Go.Sm
end

section
set_option linter.unusedVariables false
namespace Go.Sm
/-! ### Of the words that printed functions are made of -/
theorem w64_id {x : Int} (h1 : -9223372036854775808 ≤ x) (h2 : x ≤ 9223372036854775807) : w64 x = x := by
  show (let m := x % (2 ^ 64 : Int); if (true && decide ((2 : Int) ^ 63 ≤ m)) = true then m - 2 ^ 64 else m) = x
  simp only [Bool.true_and, decide_eq_true_eq]
  split <;> omega
theorem chk_of {R : Type} {b : Bool} {x : Option R} (h : b = true) : chk b x = x := by rw [h]; rfl
theorem chk_true {R : Type} {x : Option R} : chk true x = x := rfl
theorem chk_dec {R : Type} {p : Prop} [Decidable p] {x : Option R} (h : p) : chk (decide p) x = x := chk_of (decide_eq_true h)
theorem ix_of {R : Type} {i : Int} {len : Nat} {x : Option R} (h0 : 0 ≤ i) (h1 : i < (len : Int)) : ix i len x = x := by
  unfold ix
  rw [decide_eq_true h0, decide_eq_true h1]
  rfl
theorem ix_nat {R : Type} {i len : Nat} {x : Option R} (h1 : i < len) : ix (i : Int) len x = x := ix_of (by omega) (by omega)
theorem loopN_succ {X R : Type} (b : X → (X → Option R) → Option R) (m : Nat) (x : X) : loopN b (m + 1) x = b x (loopN b m) := rfl
/-- What holds of a loop: by what is left to go. -/
theorem loopN_ind {X R : Type} {b : X → (X → Option R) → Option R} (μ : X → Nat) (I : X → Prop) (Q : X → Option R → Prop)
    (h : ∀ x J, I x → (∀ y, I y → μ y < μ x → Q y (J y)) → Q x (b x J)) : ∀ n x, I x → μ x < n → Q x (loopN b n x)
  | 0, x, hi, hm => absurd hm (Nat.not_lt_zero _)
  | n + 1, x, hi, hm => h x (loopN b n) hi fun y hy hl => loopN_ind μ I Q h n y hy (by omega)
theorem getD_eq {α : Type} {l : List α} {i : Nat} {d : α} (h : i < l.length) : l.getD i d = l[i] := by
  simp [List.getD, h]
theorem w64_succ {k : Nat} (h : k < 9223372036854775807) : w64 ((k : Int) + 1) = ((k + 1 : Nat) : Int) := by
  rw [w64_id (by omega) (by omega)]
  rfl
theorem bd_eq {α β : Type} (e : α) (f : α → β) : bd e f = f e := rfl
theorem all_range_succ {p : Nat → Bool} {k : Nat} : (List.range (k + 1)).all p = ((List.range k).all p && p k) := by
  rw [List.range_succ, List.all_append]
  simp
theorem any_range_succ {p : Nat → Bool} {k : Nat} : (List.range (k + 1)).any p = ((List.range k).any p || p k) := by
  rw [List.range_succ, List.any_append]
  simp
theorem all_range_not {p : Nat → Bool} {k m : Nat} (hk : k < m) (h : p k = false) : (List.range m).all p = false := by
  rw [Bool.eq_false_iff]
  intro e
  rw [List.all_eq_true] at e
  rw [e k (List.mem_range.2 hk)] at h
  cases h
/-- A loop that looks at k = 0, 1, .. and leaves at the first that is not so. -/
theorem loop_all {R : Type} {b : Int → (Int → Option R) → Option R} {len : Nat} {p : Nat → Bool} {no yes : Option R} (hlen : len ≤ 9223372036854775807)
    (hstep : ∀ (k : Nat) (J : Int → Option R), k < len → (∀ j, j < k → p j = true) → b (k : Int) J = bif p k then J ((k + 1 : Nat) : Int) else no) (hfin : ∀ J, (∀ j, j < len → p j = true) → b (len : Int) J = yes) {n : Nat} (hn : len < n) :
    loopN b n (0 : Int) = bif (List.range len).all p then yes else no := by
  refine loopN_ind (fun x => len - x.toNat) (fun x => ∃ k : Nat, k ≤ len ∧ x = (k : Int) ∧ (List.range k).all p = true) (fun x r => r = bif (List.range len).all p then yes else no) ?_ n _ ⟨0, by omega, rfl, rfl⟩ (by simp; omega)
  rintro _ J ⟨k, hk, rfl, hb⟩ ih
  have hb' : ∀ j, j < k → p j = true := fun j hj => List.all_eq_true.1 hb j (List.mem_range.2 hj)
  by_cases h : k < len
  · rw [hstep k J h hb']
    cases hp : p k with
    | true => exact ih _ ⟨k + 1, h, rfl, by rw [all_range_succ, hb, hp]; rfl⟩ (by simp; omega)
    | false => rw [all_range_not h hp]; rfl
  · have : k = len := by omega
    subst this
    rw [hfin _ hb', hb]
    rfl
/-- A loop over 0 .. len that never leaves early; its state: I. -/
theorem loop_runS {S R : Type} {X : Type} {enc : Int → S → X} {b : X → (X → Option R) → Option R} {len : Nat} {I : Nat → S → Prop} {Q : Option R → Prop}
    (hstep : ∀ (k : Nat) (s : S) (J : X → Option R), k < len → I k s → ∃ s', I (k + 1) s' ∧ b (enc (k : Int) s) J = J (enc ((k + 1 : Nat) : Int) s')) (hfin : ∀ s J, I len s → Q (b (enc (len : Int) s) J)) {n : Nat} (hn : len < n) {s0 : S} (h0 : I 0 s0) :
    Q (loopN b n (enc (0 : Int) s0)) := by
  have key : ∀ m (k : Nat) (s : S) n, k + m = len → m < n → I k s → Q (loopN b n (enc (k : Int) s)) := by
    intro m
    induction m with
    | zero =>
      intro k s n hk hn hi
      have hk : k = len := by omega
      subst hk
      cases n with
      | zero => omega
      | succ n => rw [loopN_succ]; exact hfin s _ hi
    | succ m ih =>
      intro k s n hk hn hi
      cases n with
      | zero => omega
      | succ n =>
        rw [loopN_succ]
        obtain ⟨s', h1, h2⟩ := hstep k s (loopN b n) (by omega) hi
        rw [h2]
        exact ih (k + 1) s' n (by omega) (by omega) h1
  exact key len 0 s0 n (by omega) hn h0
/-! ### Sums over lists -/
theorem getD_mem {α : Type} {l : List α} {k : Nat} {d : α} (h : k < l.length) : l.getD k d ∈ l := by rw [getD_eq h]; exact List.getElem_mem h
def idxOf (p : Nat → Bool) (m : Nat) : Int := match (List.range m).find? p with
  | some k => (k : Int)
  | none => -1
theorem find_range_none {p : Nat → Bool} {m : Nat} (h : ∀ j, j < m → p j = false) : (List.range m).find? p = none := by
  rw [List.find?_eq_none]
  intro x hx
  rw [h x (List.mem_range.1 hx)]
  simp
theorem find_range_some {p : Nat → Bool} {m k : Nat} (hk : k < m) (hp : p k = true) (h : ∀ j, j < k → p j = false) : (List.range m).find? p = some k := by
  have e : m = k + (m - k) := by omega
  rw [e, List.range_add, List.find?_append, find_range_none h, Option.none_or]
  obtain ⟨r, hr⟩ : ∃ r, m - k = r + 1 := ⟨m - k - 1, by omega⟩
  rw [hr, List.range_succ_eq_map]
  simp [hp]
theorem idxOf_ge (p : Nat → Bool) (m : Nat) : decide (idxOf p m ≥ 0) = (List.range m).any p := by
  unfold idxOf
  cases h : (List.range m).find? p with
  | none =>
    rw [List.find?_eq_none] at h
    rw [show (List.range m).any p = false from by rw [List.any_eq_false]; exact h]
    rfl
  | some k =>
    have h1 := List.find?_some h
    rw [show (List.range m).any p = true from List.any_eq_true.2 ⟨k, List.mem_of_find?_eq_some h, h1⟩]
    exact decide_eq_true (by show (0 : Int) ≤ (k : Int); omega)
/-- A loop that looks at k = 0, 1, .. and leaves at the first that is so. -/
theorem loop_find {R : Type} {b : Int → (Int → Option R) → Option R} {len : Nat} {p : Nat → Bool} {yes : Nat → Option R} {no : Option R} (hlen : len ≤ 9223372036854775807)
    (hstep : ∀ (k : Nat) (J : Int → Option R), k < len → (∀ j, j < k → p j = false) → b (k : Int) J = bif p k then yes k else J ((k + 1 : Nat) : Int)) (hfin : ∀ J, (∀ j, j < len → p j = false) → b (len : Int) J = no) {n : Nat} (hn : len < n) :
    loopN b n (0 : Int) = match (List.range len).find? p with | some k => yes k | none => no := by
  refine loopN_ind (fun x => len - x.toNat) (fun x => ∃ k : Nat, k ≤ len ∧ x = (k : Int) ∧ ∀ j, j < k → p j = false) (fun x r => r = match (List.range len).find? p with | some k => yes k | none => no) ?_ n _ ⟨0, by omega, rfl, fun j hj => absurd hj (Nat.not_lt_zero _)⟩ (by simp; omega)
  rintro _ J ⟨k, hk, rfl, hb⟩ ih
  by_cases h : k < len
  · rw [hstep k J h hb]
    cases hp : p k with
    | false => exact ih _ ⟨k + 1, h, rfl, fun j hj => by
        by_cases e : j = k
        · rw [e]; exact hp
        · exact hb j (by omega)⟩ (by simp; omega)
    | true => rw [find_range_some h hp hb]; rfl
  · have : k = len := by omega
    subst this
    rw [hfin _ hb, find_range_none hb]
theorem loop_idx {b : Int → (Int → Option Int) → Option Int} {len : Nat} {p : Nat → Bool} (hlen : len ≤ 9223372036854775807)
    (hstep : ∀ (k : Nat) (J : Int → Option Int), k < len → (∀ j, j < k → p j = false) → b (k : Int) J = bif p k then some (k : Int) else J ((k + 1 : Nat) : Int)) (hfin : ∀ J, (∀ j, j < len → p j = false) → b (len : Int) J = some (-1)) {n : Nat} (hn : len < n) :
    loopN b n (0 : Int) = some (idxOf p len) := by
  rw [loop_find (yes := fun k => some (k : Int)) (no := some (-1)) hlen hstep hfin hn]
  unfold idxOf
  cases (List.range len).find? p <;> rfl
theorem byteAt_rng (s : ByteArray) (k : Nat) : 0 ≤ byteAt s k ∧ byteAt s k ≤ 255 := by
  unfold byteAt
  have := (s.data.getD k 0).toNat_lt
  omega
end Go.Sm
end

section
set_option linter.unusedVariables false
set_option linter.unusedSimpArgs false
namespace Go.Sm
attribute [local irreducible] bd chk ix loopN
end Go.Sm
end

section
set_option linter.unusedVariables false
set_option linter.unusedSimpArgs false
namespace Go.Sm
attribute [local irreducible] bd chk ix loopN
/-! ### Lists that end in one more -/
theorem app_len {α : Type} (P : List α) (x : α) : (P ++ [x]).length = P.length + 1 := by simp
theorem app_get {α : Type} (P : List α) (x d : α) : (P ++ [x]).getD P.length d = x := by
  rw [getD_eq (by simp), List.getElem_append_right (Nat.le_refl _)]; simp
theorem app_set {α : Type} (x y : α) : ∀ P : List α, (P ++ [x]).set P.length y = P ++ [y]
  | [] => rfl
  | a :: P => by
    show a :: (P ++ [x]).set P.length y = a :: (P ++ [y])
    rw [app_set x y P]
theorem bstr_push (l : List Int) (b : Int) : bstr l ++ bstr [b] = bstr (l ++ [b]) := by
  apply ByteArray.ext
  simp [bstr]
theorem bstr_size (l : List Int) : (bstr l).size = l.length := by
  show (List.map _ l).toArray.size = _
  simp
theorem set_self {α : Type} {l : List α} {i : Nat} {d : α} (h : i < l.length) : l.set i (l.getD i d) = l := by
  rw [getD_eq h]; exact List.set_getElem_self h
theorem in_specE (n : Nat) (x a b : Int) : spec_l1In n x a b = some (decide (a ≤ x ∧ x ≤ b)) := by
  unfold spec_l1In
  by_cases h1 : x ≥ a
  · rw [decide_eq_true h1, cond_true]
    congr 1
    rw [decide_eq_decide]
    exact ⟨fun h => ⟨h1, h⟩, fun h => h.2⟩
  · rw [decide_eq_false h1, cond_false, decide_eq_false fun h => h1 h.1]
def capB (t : ByteArray) (i : Nat) : Bool := decide (65 ≤ byteAt t i ∧ byteAt t i ≤ 90)
theorem cap_impl (n : Nat) (t : ByteArray) (i : Nat) : impl_capital n (byteAt t i) = some (capB t i) := by
  unfold impl_capital capB
  by_cases h1 : byteAt t i ≥ 65
  · rw [decide_eq_true h1, cond_true]
    congr 1
    rw [decide_eq_decide]
    exact ⟨fun h => ⟨h1, h⟩, fun h => h.2⟩
  · rw [decide_eq_false h1, cond_false, decide_eq_false fun h => h1 h.1]
theorem plain_impl (n : Nat) (c : Int) : impl_plain n c = some (decide (32 ≤ c ∧ c ≤ 126)) := by
  unfold impl_plain
  by_cases h1 : c ≥ 32
  · rw [decide_eq_true h1, cond_true]
    congr 1
    rw [decide_eq_decide]
    exact ⟨fun h => ⟨h1, h⟩, fun h => h.2⟩
  · rw [decide_eq_false h1, cond_false, decide_eq_false fun h => h1 h.1]
def markB (c : Int) : Bool := decide (c = 43) || (decide (c = 58) || (decide (c = 39) || decide (c = 63)))
theorem mark_spec (n : Nat) (c : Int) : spec_l21Mark n c = some (markB c) := by
  unfold spec_l21Mark markB
  cases decide (c = 43) <;> cases decide (c = 58) <;> cases decide (c = 39) <;> rfl
theorem mark_impl (n : Nat) (c : Int) : impl_marked n c = some (markB c) := by
  unfold impl_marked markB
  cases decide (c = 43) <;> cases decide (c = 58) <;> cases decide (c = 39) <;> rfl
theorem mark_plain {c : Int} (h : markB c = true) : 32 ≤ c ∧ c ≤ 126 := by
  unfold markB at h
  simp only [Bool.or_eq_true, decide_eq_true_eq] at h
  omega
theorem w64_byte (t : ByteArray) (i : Nat) : w64 (byteAt t i) = byteAt t i := by
  have := byteAt_rng t i
  exact w64_id (by omega) (by omega)
/-! ### The head -/
def headB (t : ByteArray) (a : Nat) : Bool := decide (a + 3 < t.size) && (capB t a && (capB t (a + 1) && (capB t (a + 2) && (decide (byteAt t (a + 3) = 43) || decide (byteAt t (a + 3) = 39)))))
def Row21 (r : List ByteArray) : Prop := r.length ≤ 10 ∧ ∀ x ∈ r, x.size ≤ 40
def PartsOk (c : List (List ByteArray)) : Prop := c.length ≤ 20 ∧ ∀ r ∈ c, Row21 r
def SegOk (s : SSeg) : Prop := s.Tag.size ≤ 3 ∧ PartsOk s.Parts
def OutOk (l : List SSeg) : Prop := l.length ≤ 60 ∧ ∀ s ∈ l, SegOk s
structure Inv21 (P : List (List ByteArray)) (r : List ByteArray) (now : List Int) : Prop where
  p : P.length ≤ 19
  rows : ∀ x ∈ P, Row21 x
  rl : r.length ≤ 9
  txt : ∀ x ∈ r, x.size ≤ 40
  now : now.length ≤ 40
theorem Inv21.row {P : List (List ByteArray)} {r : List ByteArray} {now : List Int} (h : Inv21 P r now) : ∀ x ∈ r ++ [bstr now], x.size ≤ 40 := fun x hx => by
  rcases List.mem_append.1 hx with h1 | h1
  · exact h.txt x h1
  · rw [List.mem_singleton.1 h1, bstr_size]; exact h.now
theorem Inv21.parts {P : List (List ByteArray)} {r : List ByteArray} {now : List Int} (h : Inv21 P r now) : PartsOk (P ++ [r ++ [bstr now]]) := by
  have h1 := h.p
  have h2 := h.rl
  refine ⟨by rw [app_len]; omega, fun x hx => ?_⟩
  rcases List.mem_append.1 hx with g | g
  · exact h.rows x g
  · rw [List.mem_singleton.1 g]; exact ⟨by rw [app_len]; omega, h.row⟩
theorem close_ok {n : Nat} {P : List (List ByteArray)} {r : List ByteArray} {now : List Int} {s : ByteArray} (h : Inv21 P r now) : impl_ReadSegs_1 n ⟨s, P ++ [r]⟩ now = some (⟨s, P ++ [r ++ [bstr now]]⟩, []) := by
  have h1 := h.p
  have h2 := h.rl
  have hl : P.length < (P ++ [r]).length := by rw [app_len]; omega
  have e : w64 (((P ++ [r]).length : Int) - 1) = ((P.length : Nat) : Int) := by rw [app_len, w64_id (by omega) (by omega)]; omega
  unfold impl_ReadSegs_1
  dsimp only
  rw [e, bd_eq, decide_eq_true (by omega), cond_true]
  simp only [ix_nat hl, Int.toNat_natCast, chk_dec hl, app_get, app_set, bd_eq, decide_true, chk_true]
  rw [chk_dec (by rw [app_len]; omega)]
/-! ### The two inner loops -/
abbrev Res21 := List SSeg × Int × Int
def Fit21 (v : Res21) : Prop := OutOk v.1
def Both (x y : Option Res21) : Prop := ∃ v, x = some v ∧ y = some v ∧ Fit21 v
theorem both_err (code pos : Int) : Both (some ([], code, pos)) (some ([], code, pos)) := ⟨_, rfl, rfl, Nat.zero_le _, fun _ hs => absurd hs List.not_mem_nil⟩
abbrev iIn (n : Nat) (t : ByteArray) (list : List SSeg) (KI : Int → ByteArray → List (List ByteArray) → Option Res21) (f : Nat) := loopN (fun (x : Int × Bool × ByteArray × List (List ByteArray) × List Int) (J' : Int × Bool × ByteArray × List (List ByteArray) × List Int → Option Res21) => impl_ReadSegs_L16 n KI (fun t190 t191 t192 => some (t192, t190, t191)) (fun at193 ended194 s195 c196 c197 => J' (at193, ended194, s195, c196, c197)) t (t.size : Int) x.1 x.2.1 list x.2.2.1 x.2.2.2.1 x.2.2.2.2) f
theorem iIn_end {n : Nat} {t : ByteArray} {list : List SSeg} {KI : Int → ByteArray → List (List ByteArray) → Option Res21} {f : Nat} {a : Int} {s : ByteArray} {c : List (List ByteArray)} {now : List Int} : iIn n t list KI (f + 1) (a, true, s, c, now) = KI a s c := by
  show loopN _ (f + 1) (a, true, s, c, now) = _
  rw [loopN_succ]
  show impl_ReadSegs_L16 n _ _ _ t (t.size : Int) a true list s c now = _
  unfold impl_ReadSegs_L16
  rfl
end Go.Sm
end

section
set_option linter.unusedVariables false
set_option linter.unusedSimpArgs false
namespace Go.Sm
attribute [local irreducible] bd chk ix loopN
theorem close_nil {n : Nat} {s : ByteArray} {now : List Int} : impl_ReadSegs_1 n ⟨s, []⟩ now = some (⟨s, []⟩, now) := by
  unfold impl_ReadSegs_1
  dsimp only
  rw [show w64 ((([] : List (List ByteArray)).length : Int) - 1) = -1 from rfl, bd_eq]
  rfl
theorem head_impl {R : Type} {n : Nat} (kx : List SSeg → Option R) (kxr : Int → Int → List SSeg → Option R) (J : Int → List SSeg → Option R) {t : ByteArray} {a : Nat} {l : List SSeg} (ha : a < t.size) (hs : t.size ≤ 2000) : impl_ReadSegs_k4 n kx kxr J t (t.size : Int) (a : Int) l = bif headB t a then impl_ReadSegs_k3 n kx kxr J t (t.size : Int) (a : Int) l else kxr 2 (a : Int) [] := by
  have e4 : w64 ((a : Int) + 4) = ((a + 4 : Nat) : Int) := by rw [w64_id (by omega) (by omega)]; omega
  have e1 : w64 ((a : Int) + 1) = ((a + 1 : Nat) : Int) := by rw [w64_id (by omega) (by omega)]; omega
  have e2 : w64 ((a : Int) + 2) = ((a + 2 : Nat) : Int) := by rw [w64_id (by omega) (by omega)]; omega
  have e3 : w64 ((a : Int) + 3) = ((a + 3 : Nat) : Int) := by rw [w64_id (by omega) (by omega)]; omega
  unfold impl_ReadSegs_k4 headB
  rw [e4, e1, e2, e3]
  by_cases h : a + 3 < t.size
  · rw [decide_eq_false (by omega), cond_false, decide_eq_true h, Bool.true_and, ix_nat ha, ix_nat (show a + 1 < t.size by omega), ix_nat (show a + 2 < t.size by omega), ix_nat h, ix_nat h]
    simp only [Int.toNat_natCast, cap_impl, Option.bind_some]
    generalize capB t a = c0
    generalize capB t (a + 1) = c1
    generalize capB t (a + 2) = c2
    generalize decide (byteAt t (a + 3) = 43) = c3
    generalize decide (byteAt t (a + 3) = 39) = c4
    cases c0 <;> cases c1 <;> cases c2 <;> cases c3 <;> cases c4 <;> rfl
  · rw [decide_eq_true (by omega), cond_true, decide_eq_false h]; rfl
theorem headB_at {t : ByteArray} {a : Nat} (h : headB t a = true) : a + 3 < t.size ∧ (byteAt t (a + 3) = 43 ∨ byteAt t (a + 3) = 39) := by
  unfold headB at h
  simp only [Bool.and_eq_true, Bool.or_eq_true, decide_eq_true_eq] at h
  exact ⟨h.1, h.2.2.2.2⟩
abbrev iOut (n : Nat) (t : ByteArray) (f : Nat) := loopN (fun (x : Int × List SSeg) (J' : Int × List SSeg → Option Res21) => impl_ReadSegs_L6 n (fun list215 => (impl_own_impl_Seg n list215).bind fun r216 => some (r216, (0 : Int), (0 : Int))) (fun t217 t218 t219 => some (t219, t217, t218)) (fun at220 list221 => J' (at220, list221)) t (t.size : Int) x.1 x.2) f
theorem own_rows {R : Type} {n : Nat} {Q : Option R → Prop} (kx : List (List ByteArray) → Option R) {t : ByteArray} {n3 a : Int} {l : List SSeg} {s : ByteArray} {c : List (List ByteArray)} (hc : PartsOk c) (hn : 1000000000 < n) (hq : Q (kx c)) : Q (loopN (fun (x : Int × List (List ByteArray)) J' => impl_ReadSegs_L41 n kx (fun t188 c189 => J' (t188, c189)) t n3 a (c.length : Int) x.1 l s x.2) n ((0 : Int), c)) := by
  have hl := hc.1
  refine loop_runS (enc := fun k (z : List (List ByteArray)) => (k, z)) (I := fun _ z => z = c) (Q := Q) (len := c.length) (fun k z J hk hI => ⟨c, rfl, ?_⟩) (fun z J hI => ?_) (by omega) rfl
  · have e : w64 ((k : Int) + 1) = ((k + 1 : Nat) : Int) := w64_succ (by omega)
    have hr := (hc.2 _ (getD_mem (d := ([] : List ByteArray)) hk)).1
    subst hI
    show impl_ReadSegs_L41 n kx (fun t188 c189 => J (t188, c189)) t n3 a (z.length : Int) (k : Int) l s z = _
    unfold impl_ReadSegs_L41 impl_ReadSegs_k2 impl_own_string
    rw [decide_eq_true (by omega), cond_true, ix_nat hk, Int.toNat_natCast, chk_dec hk, chk_dec hk, chk_dec (by omega), chk_dec (by omega), chk_dec (by omega), Option.bind_some, ix_nat hk, chk_dec hk, set_self hk, e]
  · subst hI
    show Q (impl_ReadSegs_L41 n kx (fun t188 c189 => J (t188, c189)) t n3 a (z.length : Int) (z.length : Int) l s z)
    unfold impl_ReadSegs_L41
    rw [decide_eq_false (by omega), cond_false]
    exact hq
end Go.Sm
end

section
set_option linter.unusedVariables false
set_option linter.unusedSimpArgs false
namespace Go.Sm
attribute [local irreducible] bd chk ix loopN
/-! ### The reader, told plainly -/
def rdIn (t : ByteArray) : Nat → Nat → List (List ByteArray) → List ByteArray → List Int → Option (Nat × List (List ByteArray))
  | 0, _, _, _, _ => none
  | f + 1, a, P, r, now =>
    if t.size ≤ a then none
    else if byteAt t a = 39 then some (a + 1, P ++ [r ++ [bstr now]])
    else if byteAt t a = 43 then (if P.length = 19 then none else rdIn t f (a + 1) (P ++ [r ++ [bstr now]]) [] [])
    else if byteAt t a = 58 then (if r.length = 9 then none else rdIn t f (a + 1) P (r ++ [bstr now]) [])
    else if ¬ (32 ≤ byteAt t a ∧ byteAt t a ≤ 126) then none
    else if byteAt t a = 63 then (if a + 1 = t.size then none else if markB (byteAt t (a + 1)) = false then none else if now.length = 40 then none else rdIn t f (a + 2) P r (now ++ [byteAt t (a + 1)]))
    else if now.length = 40 then none else rdIn t f (a + 1) P r (now ++ [byteAt t a])
def Err21 (t : ByteArray) (x : Option Res21) : Prop := ∃ code pos : Int, x = some ([], code, pos) ∧ code ≠ 0 ∧ 0 ≤ pos ∧ pos ≤ (t.size : Int)
def Rd (t : ByteArray) (a0 : Nat) (y : Option (Nat × List (List ByteArray))) (x : Option Res21) (KI : Nat → List (List ByteArray) → Option Res21) : Prop :=
  match y with
  | some (b, c) => x = KI b c ∧ a0 < b ∧ b ≤ t.size ∧ PartsOk c
  | none => Err21 t x
theorem Rd.le {t : ByteArray} {a a0 : Nat} {y : Option (Nat × List (List ByteArray))} {x : Option Res21} {KI : Nat → List (List ByteArray) → Option Res21} (h : Rd t a y x KI) (ha : a0 ≤ a) : Rd t a0 y x KI := by
  cases y with
  | none => exact h
  | some y => exact ⟨h.1, Nat.lt_of_le_of_lt ha h.2.1, h.2.2⟩
theorem inner_rd {n : Nat} {t : ByteArray} (hs : t.size ≤ 2000) {out : List SSeg} {s : ByteArray} {KI : Int → ByteArray → List (List ByteArray) → Option Res21} :
    ∀ (w a f fI : Nat) (P : List (List ByteArray)) (r : List ByteArray) (now : List Int), t.size - a ≤ w → w < f → w + 1 < fI → a ≤ t.size → Inv21 P r now → Rd t a (rdIn t f a P r now) (iIn n t out KI fI ((a : Int), false, s, P ++ [r], now)) (fun b c => KI (b : Int) s c) := by
  intro w
  induction w with
  | zero =>
    intro a f fI P r now h1 h2 h3 h4 hi
    obtain ⟨f, rfl⟩ : ∃ f', f = f' + 1 := ⟨f - 1, by omega⟩
    obtain ⟨g, rfl⟩ : ∃ g, fI = g + 1 := ⟨fI - 1, by omega⟩
    have : a = t.size := by omega
    subst this
    have e2 : iIn n t out KI (g + 1) ((t.size : Int), false, s, P ++ [r], now) = some ([], 5, (t.size : Int)) := by
      show loopN _ (g + 1) _ = _
      rw [loopN_succ]
      show impl_ReadSegs_L16 n _ _ _ t (t.size : Int) (t.size : Int) false out s _ now = _
      unfold impl_ReadSegs_L16
      rw [decide_eq_true rfl]; rfl
    unfold rdIn
    rw [if_pos (Nat.le_refl _), e2]
    exact ⟨5, _, rfl, by omega, by omega, by omega⟩
  | succ w ih =>
    intro a f fI P r now h1 h2 h3 h4 hi
    obtain ⟨f, rfl⟩ : ∃ f', f = f' + 1 := ⟨f - 1, by omega⟩
    by_cases hat : a = t.size
    · exact ih a (f + 1) fI P r now (by omega) (by omega) (by omega) h4 hi
    have ha : a < t.size := by omega
    obtain ⟨g, rfl⟩ : ∃ g, fI = g + 1 + 1 := ⟨fI - 2, by omega⟩
    have hp := hi.p
    have hr := hi.rl
    have hw := hi.now
    have hrow := hi.row
    have e1 : w64 ((a : Int) + 1) = ((a + 1 : Nat) : Int) := w64_succ (by omega)
    have hn2 : P.length < (P ++ [r]).length := by rw [app_len]; omega
    have ev2 : w64 (((P ++ [r]).length : Int) - 1) = ((P.length : Nat) : Int) := by rw [app_len, w64_id (by omega) (by omega)]; omega
    have go : ∀ (b : Nat) P' r' now', a < b → b ≤ t.size → Inv21 P' r' now' → Rd t a (rdIn t f b P' r' now') (iIn n t out KI (g + 1) ((b : Int), false, s, P' ++ [r'], now')) (fun b c => KI (b : Int) s c) := fun b P' r' now' g1 g2 g3 => (ih b f (g + 1) P' r' now' (by omega) (by omega) (by omega) g2 g3).le (by omega)
    have err : ∀ (code : Int), code ≠ 0 → Err21 t (some ([], code, (a : Int))) := fun code hc => ⟨code, _, rfl, hc, by omega, by omega⟩
    have hI : iIn n t out KI (g + 1 + 1) ((a : Int), false, s, P ++ [r], now) = impl_ReadSegs_k1 n KI (fun t190 t191 t192 => some (t192, t190, t191)) (fun at193 ended194 s195 c196 c197 => iIn n t out KI (g + 1) (at193, ended194, s195, c196, c197)) t (t.size : Int) (a : Int) false out s (P ++ [r]) now := by
      show loopN _ (g + 1 + 1) _ = _
      rw [loopN_succ]
      show impl_ReadSegs_L16 n _ _ _ t (t.size : Int) (a : Int) false out s _ now = _
      unfold impl_ReadSegs_L16
      rw [decide_eq_false (by omega)]; rfl
    rw [hI]
    unfold impl_ReadSegs_k1 rdIn
    rw [if_neg (show ¬ t.size ≤ a by omega), ix_nat ha, Int.toNat_natCast, e1, close_ok hi]
    simp only [Option.bind_some]
    have hbr := byteAt_rng t a
    generalize hch : byteAt t a = ch at hbr ⊢
    by_cases c1 : ch = 39
    · rw [decide_eq_true c1, cond_true, if_pos c1, iIn_end]
      exact ⟨rfl, by omega, by omega, hi.parts⟩
    rw [decide_eq_false c1, cond_false, if_neg c1]
    by_cases c2 : ch = 43
    · have al : ((P ++ [r ++ [bstr now]]).length : Int) = (P.length : Int) + 1 := by rw [app_len]; omega
      rw [decide_eq_true c2, cond_true, if_pos c2]
      by_cases h20 : P.length = 19
      · rw [decide_eq_true (show ((P ++ [r ++ [bstr now]]).length : Int) = 20 by omega), cond_true, if_pos h20]; exact err _ (by decide)
      · rw [decide_eq_false (show ¬ ((P ++ [r ++ [bstr now]]).length : Int) = 20 by omega), cond_false, if_neg h20, chk_dec (by rw [app_len, app_len]; omega)]
        exact go (a + 1) (P ++ [r ++ [bstr now]]) [] [] (by omega) (by omega) ⟨by rw [app_len]; omega, hi.parts.2, by simp, fun x hx => absurd hx List.not_mem_nil, by simp⟩
    rw [decide_eq_false c2, cond_false, if_neg c2]
    by_cases c3 : ch = 58
    · rw [decide_eq_true c3, cond_true, if_pos c3, ev2, bd_eq, ix_nat hn2, Int.toNat_natCast, chk_dec hn2, chk_dec hn2, app_get]
      by_cases h9 : r.length = 9
      · rw [decide_eq_true (show (r.length : Int) = 9 by omega), cond_true, if_pos h9]; exact err _ (by decide)
      · rw [decide_eq_false (show ¬ (r.length : Int) = 9 by omega), cond_false, if_neg h9]
        exact go (a + 1) P (r ++ [bstr now]) [] (by omega) (by omega) ⟨hi.p, hi.rows, by rw [app_len]; omega, hrow, by simp⟩
    rw [decide_eq_false c3, cond_false, if_neg c3, plain_impl, Option.bind_some]
    by_cases h5 : 32 ≤ ch ∧ ch ≤ 126
    case neg => rw [decide_eq_false h5, if_pos h5]; exact err _ (by decide)
    rw [decide_eq_true h5, Bool.not_true, cond_false, if_neg (not_not_intro h5)]
    by_cases c4 : ch = 63
    · rw [decide_eq_true c4, cond_true, if_pos c4]
      by_cases h6 : a + 1 = t.size
      · rw [decide_eq_true (show ((a + 1 : Nat) : Int) = (t.size : Int) by omega), cond_true, if_pos h6]; exact err _ (by decide)
      · have ha1 : a + 1 < t.size := by omega
        rw [decide_eq_false (show ¬ ((a + 1 : Nat) : Int) = (t.size : Int) by omega), cond_false, if_neg h6, ix_nat ha1, Int.toNat_natCast, mark_impl, Option.bind_some]
        cases hm : markB (byteAt t (a + 1)) with
        | false => rw [if_pos rfl]; exact err _ (by decide)
        | true =>
          rw [Bool.not_true, cond_false, if_neg (show ¬ (true = false) by decide)]
          by_cases h40 : now.length = 40
          · rw [decide_eq_true (show (now.length : Int) = 40 by omega), cond_true, if_pos h40]; exact err _ (by decide)
          · have e2 : w64 (((a + 1 : Nat) : Int) + 1) = ((a + 1 + 1 : Nat) : Int) := w64_succ (by omega)
            rw [decide_eq_false (show ¬ (now.length : Int) = 40 by omega), cond_false, if_neg h40]
            unfold impl_ReadSegs_k0
            rw [decide_eq_true c4, cond_true, e1, bd_eq, ix_nat ha1, Int.toNat_natCast, bd_eq, chk_dec (by rw [app_len]; omega), e2]
            exact go (a + 2) P r (now ++ [byteAt t (a + 1)]) (by omega) (by omega) ⟨hi.p, hi.rows, hi.rl, hi.txt, by rw [app_len]; omega⟩
    · rw [decide_eq_false c4, cond_false, if_neg c4]
      by_cases h40 : now.length = 40
      · rw [decide_eq_true (show (now.length : Int) = 40 by omega), cond_true, if_pos h40]; exact err _ (by decide)
      · rw [decide_eq_false (show ¬ (now.length : Int) = 40 by omega), cond_false, if_neg h40]
        unfold impl_ReadSegs_k0
        rw [decide_eq_false c4, cond_false, ix_nat ha, Int.toNat_natCast, hch, bd_eq, chk_dec (by rw [app_len]; omega), e1, bd_eq]
        exact go (a + 1) P r (now ++ [ch]) (by omega) (by omega) ⟨hi.p, hi.rows, hi.rl, hi.txt, by rw [app_len]; omega⟩
end Go.Sm
end

section
set_option linter.unusedVariables false
set_option linter.unusedSimpArgs false
namespace Go.Sm
attribute [local irreducible] bd chk ix loopN
/-! ### The whole reader, told plainly -/
def rdFirst (t : ByteArray) (a : Nat) : Option (Nat × List (List ByteArray)) := if byteAt t a = 39 then some (a + 1, []) else rdIn t (t.size + 1) (a + 1) [] [] []
def rdOut (t : ByteArray) : Nat → Nat → List SSeg → Option (List SSeg)
  | 0, _, _ => none
  | f + 1, a, l => if t.size ≤ a then some l else if l.length = 60 then none else if headB t a = false then none else match rdFirst t (a + 3) with
    | none => none
    | some (b, c) => rdOut t f b (l ++ [⟨t.extract a (a + 3), c⟩])
theorem first_rd {n : Nat} {t : ByteArray} (hs : t.size ≤ 2000) (hn : 1000000000 < n) {out : List SSeg} {s : ByteArray} {a : Nat} {KI : Int → ByteArray → List (List ByteArray) → Option Res21} (ha : a < t.size) (hch : byteAt t a = 43 ∨ byteAt t a = 39) :
    Rd t a (rdFirst t a) (iIn n t out KI n ((a : Int), false, s, [], [])) (fun b c => KI (b : Int) s c) := by
  have e1 : w64 ((a : Int) + 1) = ((a + 1 : Nat) : Int) := w64_succ (by omega)
  have key : ∀ (m F : Nat), m = F + 1 + 1 → 100000 < F → Rd t a (rdFirst t a) (iIn n t out KI m ((a : Int), false, s, [], [])) (fun b c => KI (b : Int) s c) := by
    rintro m F rfl hF
    have hI : iIn n t out KI (F + 1 + 1) ((a : Int), false, s, [], []) = impl_ReadSegs_k1 n KI (fun t190 t191 t192 => some (t192, t190, t191)) (fun at193 ended194 s195 c196 c197 => iIn n t out KI (F + 1) (at193, ended194, s195, c196, c197)) t (t.size : Int) (a : Int) false out s [] [] := by
      show loopN _ (F + 1 + 1) _ = _
      rw [loopN_succ]
      show impl_ReadSegs_L16 n _ _ _ t (t.size : Int) (a : Int) false out s _ _ = _
      unfold impl_ReadSegs_L16
      rw [decide_eq_false (by omega)]; rfl
    rw [hI]
    unfold impl_ReadSegs_k1 rdFirst
    rw [ix_nat ha, Int.toNat_natCast, e1, close_nil]
    simp only [Option.bind_some]
    rcases hch with c2 | c1
    · rw [decide_eq_false (show ¬ byteAt t a = 39 by omega), cond_false, decide_eq_true c2, cond_true, show decide (((([] : List (List ByteArray)).length : Nat) : Int) = 20) = false from rfl, cond_false, chk_dec (by decide), if_neg (show ¬ byteAt t a = 39 by omega)]
      exact (inner_rd hs t.size (a + 1) (t.size + 1) (F + 1) [] [] [] (by omega) (by omega) (by omega) (by omega) ⟨by simp, fun x hx => absurd hx List.not_mem_nil, by simp, fun x hx => absurd hx List.not_mem_nil, by simp⟩).le (by omega)
    · rw [decide_eq_true c1, cond_true, iIn_end, if_pos c1]
      exact ⟨rfl, by omega, by omega, Nat.zero_le _, fun x hx => absurd hx List.not_mem_nil⟩
  exact key n (n - 2) (by omega) (by omega)
def RdO (t : ByteArray) (y : Option (List SSeg)) (x : Option Res21) : Prop :=
  match y with
  | some l => x = some (l, 0, 0) ∧ OutOk l
  | none => Err21 t x
theorem outer_rd {n : Nat} {t : ByteArray} (hs : t.size ≤ 2000) (hn : 1000000000 < n) : ∀ (w a f fI : Nat) (l : List SSeg), t.size - a ≤ w → w < f → w < fI → a ≤ t.size → OutOk l → RdO t (rdOut t f a l) (iOut n t fI ((a : Int), l)) := by
  intro w
  induction w with
  | zero =>
    intro a f fI l h1 h2 h3 h4 hl
    obtain ⟨f, rfl⟩ : ∃ f', f = f' + 1 := ⟨f - 1, by omega⟩
    obtain ⟨g, rfl⟩ : ∃ g, fI = g + 1 := ⟨fI - 1, by omega⟩
    have hll := hl.1
    have e2 : iOut n t (g + 1) ((a : Int), l) = some (l, 0, 0) := by
      show loopN _ (g + 1) _ = _
      rw [loopN_succ]
      show impl_ReadSegs_L6 n _ _ _ t (t.size : Int) (a : Int) l = _
      unfold impl_ReadSegs_L6 impl_own_impl_Seg
      rw [decide_eq_false (by omega), cond_false]
      dsimp only
      rw [chk_dec (by omega), chk_dec (by omega), chk_dec (by omega), Option.bind_some]
    unfold rdOut
    rw [if_pos (show t.size ≤ a by omega), e2]
    exact ⟨rfl, hl⟩
  | succ w ih =>
    intro a f fI l h1 h2 h3 h4 hl
    by_cases hat : a = t.size
    · exact ih a f fI l (by omega) (by omega) (by omega) h4 hl
    have ha : a < t.size := by omega
    obtain ⟨f, rfl⟩ : ∃ f', f = f' + 1 := ⟨f - 1, by omega⟩
    obtain ⟨g, rfl⟩ : ∃ g, fI = g + 1 := ⟨fI - 1, by omega⟩
    have hll := hl.1
    have e3 : w64 ((a : Int) + 3) = ((a + 3 : Nat) : Int) := by rw [w64_id (by omega) (by omega)]; omega
    have hI : iOut n t (g + 1) ((a : Int), l) = impl_ReadSegs_L6 n (fun list215 => (impl_own_impl_Seg n list215).bind fun r216 => some (r216, (0 : Int), (0 : Int))) (fun t217 t218 t219 => some (t219, t217, t218)) (fun at220 list221 => iOut n t g (at220, list221)) t (t.size : Int) (a : Int) l := by
      show loopN _ (g + 1) _ = _
      rw [loopN_succ]
    rw [hI]
    unfold impl_ReadSegs_L6 rdOut
    rw [decide_eq_true (show (a : Int) < (t.size : Int) by omega), cond_true, if_neg (show ¬ t.size ≤ a by omega)]
    by_cases h60 : (l.length : Int) = 60
    · rw [decide_eq_true h60, cond_true, if_pos (show l.length = 60 by omega)]; exact ⟨4, _, rfl, by decide, by omega, by omega⟩
    rw [decide_eq_false h60, cond_false, if_neg (show ¬ l.length = 60 by omega), head_impl _ _ _ ha hs]
    cases hh : headB t a with
    | false => rw [if_pos rfl]; exact ⟨2, _, rfl, by decide, by omega, by omega⟩
    | true =>
      obtain ⟨hb1, hb2⟩ := headB_at hh
      rw [cond_true, if_neg (show ¬ (true = false) by decide)]
      unfold impl_ReadSegs_k3
      rw [e3, chk_dec (by omega), chk_dec (by omega), chk_dec (by omega), chk_dec (by omega), Int.toNat_natCast, Int.toNat_natCast]
      have hf := first_rd (n := n) (t := t) hs hn (out := l) (s := t.extract a (a + 3)) (a := a + 3) (KI := fun at171 s172 c173 => loopN (fun (x : Int × List (List ByteArray)) J' => impl_ReadSegs_L41 n (fun c185 => (impl_own_string_f142 n c185).bind fun r186 => (bd (l ++ [(⟨s172, r186⟩ : SSeg)]) fun (l187 : List SSeg) => chk (decide (l187.length * 40 ≤ 140737488355328)) (iOut n t g (at171, l187)))) (fun t188 c189 => J' (t188, c189)) t (t.size : Int) at171 (c173.length : Int) x.1 l s172 x.2) n ((0 : Int), c173)) hb1 hb2
      cases hr : rdFirst t (a + 3) with
      | none => rw [hr] at hf; exact hf
      | some y =>
        obtain ⟨b, c⟩ := y
        rw [hr] at hf
        obtain ⟨g1, g2, g3, hc⟩ := hf
        dsimp only at g1 ⊢
        have hlen : (l ++ [(⟨t.extract a (a + 3), c⟩ : SSeg)]).length ≤ 60 := by rw [app_len]; omega
        have hok : OutOk (l ++ [(⟨t.extract a (a + 3), c⟩ : SSeg)]) := ⟨hlen, fun x hx => by
          rcases List.mem_append.1 hx with h | h
          · exact hl.2 x h
          · rw [List.mem_singleton.1 h]
            exact ⟨by show (t.extract a (a + 3)).size ≤ 3; rw [ByteArray.size_extract]; omega, hc⟩⟩
        refine Eq.mpr (congrArg (RdO t (rdOut t f b (l ++ [(⟨t.extract a (a + 3), c⟩ : SSeg)]))) g1) ?_
        refine own_rows (Q := fun x => RdO t (rdOut t f b (l ++ [(⟨t.extract a (a + 3), c⟩ : SSeg)])) x) _ hc hn ?_
        have hcl := hc.1
        unfold impl_own_string_f142
        rw [chk_dec (by omega), chk_dec (by omega), chk_dec (by omega), Option.bind_some, bd_eq, chk_dec (by omega)]
        exact ih b f g _ (by omega) (by omega) (by omega) g3 hok
theorem read_rd {n : Nat} (t : ByteArray) (hn : 1000000000 < n) : RdO t (if t.size ≤ 2000 then rdOut t (t.size + 1) 0 [] else none) (impl_ReadSegs n t) := by
  unfold impl_ReadSegs
  by_cases hs : (t.size : Int) > 2000
  · rw [decide_eq_true hs, cond_true, if_neg (by omega)]; exact ⟨1, 0, rfl, by decide, Int.le_refl _, by omega⟩
  · rw [decide_eq_false hs, cond_false, if_pos (by omega)]
    exact outer_rd (t := t) (by omega) hn t.size 0 (t.size + 1) n [] (by omega) (by omega) (by omega) (Nat.zero_le _) ⟨Nat.zero_le _, fun x hx => absurd hx List.not_mem_nil⟩
end Go.Sm
end

section
set_option linter.unusedVariables false
set_option linter.unusedSimpArgs false
namespace Go.Sm
attribute [local irreducible] bd chk ix loopN
/-! ### What reads well is written so -/
def U8 (t : ByteArray) (a : Nat) : UInt8 := t.data.getD a 0
theorem byteAt_U (t : ByteArray) (a : Nat) : byteAt t a = ((U8 t a).toNat : Int) := rfl
theorem take_U {t : ByteArray} {a : Nat} (h : a < t.size) : t.data.toList.take (a + 1) = t.data.toList.take a ++ [U8 t a] := by
  have h2 : a < t.data.size := h
  rw [List.take_succ_eq_append_getElem (by simpa using h2)]
  congr 2
  unfold U8
  rw [Array.getD_eq_getD_getElem?, Array.getElem?_eq_getElem h2]
  simp
theorem bstr_snoc (now : List Int) (x : UInt8) : (bstr (now ++ [(x.toNat : Int)])).data.toList = (bstr now).data.toList ++ [x] := by
  simp [bstr]
theorem wText_bstr (m : UInt8) (now : List Int) (x : UInt8) : wText m (bstr (now ++ [(x.toNat : Int)])) = wText m (bstr now) ++ escB x := by
  unfold wText
  rw [bstr_snoc, List.flatMap_append]
  simp
theorem wPart_snoc (r : List ByteArray) (x : ByteArray) : wPart (r ++ [x]) = wPart r ++ wText (if r = [] then 43 else 58) x := by
  cases r with
  | nil => simp [wPart]
  | cons y r =>
    show wText 43 y ++ (r ++ [x]).flatMap (wText 58) = _
    rw [List.flatMap_append, if_neg (by simp)]
    simp [wPart]
theorem wPart_last (r : List ByteArray) (now : List Int) (x : UInt8) : wPart (r ++ [bstr (now ++ [(x.toNat : Int)])]) = wPart (r ++ [bstr now]) ++ escB x := by
  rw [wPart_snoc, wPart_snoc, wText_bstr, List.append_assoc]
theorem u8_of {c k : UInt8} (h : (c.toNat : Int) = (k.toNat : Int)) : c = k := UInt8.toNat_inj.1 (by omega)
theorem escB_marked {c : UInt8} (h : markB (c.toNat : Int) = true) : escB c = [63, c] := by
  unfold markB at h
  simp only [Bool.or_eq_true, decide_eq_true_eq] at h
  unfold escB
  rcases h with h | h | h | h
  · rw [u8_of (c := c) (k := 43) h]; rfl
  · rw [u8_of (c := c) (k := 58) h]; rfl
  · rw [u8_of (c := c) (k := 39) h]; rfl
  · rw [u8_of (c := c) (k := 63) h]; rfl
theorem escB_plain {c : UInt8} (h1 : ¬ (c.toNat : Int) = 39) (h2 : ¬ (c.toNat : Int) = 43) (h3 : ¬ (c.toNat : Int) = 58) (h4 : ¬ (c.toNat : Int) = 63) : escB c = [c] := by
  have e : ∀ k : UInt8, ¬ (c.toNat : Int) = (k.toNat : Int) → (c == k) = false := fun k h => by
    rw [beq_eq_false_iff_ne]; intro e; subst e; exact h rfl
  unfold escB
  rw [e 43 h2, e 58 h3, e 39 h1, e 63 h4]
  rfl
def txtR (s : ByteArray) : Prop := s.size ≤ 40 ∧ ∀ x ∈ s.data.toList, 32 ≤ x.toNat ∧ x.toNat ≤ 126
def rowR (r : List ByteArray) : Prop := 1 ≤ r.length ∧ r.length ≤ 10 ∧ ∀ s ∈ r, txtR s
def partsR (P : List (List ByteArray)) : Prop := P.length ≤ 20 ∧ ∀ r ∈ P, rowR r
structure StR (P : List (List ByteArray)) (r : List ByteArray) (now : List Int) : Prop where
  p : P.length ≤ 19
  rows : ∀ x ∈ P, rowR x
  rl : r.length ≤ 9
  txt : ∀ x ∈ r, txtR x
  nowl : now.length ≤ 40
  now : ∀ v ∈ now, 32 ≤ v ∧ v ≤ 126
theorem StR.last {P : List (List ByteArray)} {r : List ByteArray} {now : List Int} (h : StR P r now) : txtR (bstr now) := by
  refine ⟨by rw [bstr_size]; exact h.nowl, fun x hx => ?_⟩
  simp only [bstr, List.mem_map] at hx
  obtain ⟨v, hv, rfl⟩ := hx
  have := h.now v hv
  have e : (UInt8.ofNat v.toNat).toNat = v.toNat := UInt8.toNat_ofNat_of_lt' (by show v.toNat < 256; omega)
  rw [e]; omega
theorem StR.row {P : List (List ByteArray)} {r : List ByteArray} {now : List Int} (h : StR P r now) : rowR (r ++ [bstr now]) := by
  have := h.rl
  refine ⟨by rw [app_len]; omega, by rw [app_len]; omega, fun x hx => ?_⟩
  rcases List.mem_append.1 hx with g | g
  · exact h.txt x g
  · rw [List.mem_singleton.1 g]; exact h.last
theorem StR.parts {P : List (List ByteArray)} {r : List ByteArray} {now : List Int} (h : StR P r now) : partsR (P ++ [r ++ [bstr now]]) := by
  have := h.p
  refine ⟨by rw [app_len]; omega, fun x hx => ?_⟩
  rcases List.mem_append.1 hx with g | g
  · exact h.rows x g
  · rw [List.mem_singleton.1 g]; exact h.row
theorem parts_snoc (P : List (List ByteArray)) (r : List ByteArray) : (P ++ [r]).flatMap wPart = P.flatMap wPart ++ wPart r := by rw [List.flatMap_append]; simp
theorem rdIn_back {t : ByteArray} : ∀ (f a : Nat) (P : List (List ByteArray)) (r : List ByteArray) (now : List Int) (b : Nat) (c : List (List ByteArray)), rdIn t f a P r now = some (b, c) → StR P r now →
    ∃ X, b ≤ t.size ∧ t.data.toList.take b = t.data.toList.take a ++ X ∧ P.flatMap wPart ++ wPart (r ++ [bstr now]) ++ X = c.flatMap wPart ++ [39] ∧ partsR c
  | 0, _, _, _, _, _, _, h, _ => by cases h
  | f + 1, a, P, r, now, b, c, h, hi => by
    unfold rdIn at h
    by_cases ha : t.size ≤ a
    · rw [if_pos ha] at h; cases h
    rw [if_neg ha] at h
    have ha1 : a < t.size := by omega
    have htk := take_U ha1
    have hp := hi.p
    have hr := hi.rl
    have hw := hi.nowl
    by_cases c1 : byteAt t a = 39
    · rw [if_pos c1, Option.some.injEq, Prod.mk.injEq] at h
      obtain ⟨rfl, rfl⟩ := h
      refine ⟨[39], by omega, ?_, by rw [parts_snoc], hi.parts⟩
      rw [htk, u8_of (c := U8 t a) (k := 39) c1]
    rw [if_neg c1] at h
    by_cases c2 : byteAt t a = 43
    · rw [if_pos c2] at h
      by_cases h19 : P.length = 19
      · rw [if_pos h19] at h; cases h
      rw [if_neg h19] at h
      obtain ⟨X, x1, x2, x3, x4⟩ := rdIn_back f (a + 1) _ _ _ b c h ⟨by rw [app_len]; omega, hi.parts.2, by simp, fun x hx => absurd hx List.not_mem_nil, by simp, fun x hx => absurd hx List.not_mem_nil⟩
      refine ⟨43 :: X, x1, ?_, ?_, x4⟩
      · rw [x2, htk, u8_of (c := U8 t a) (k := 43) c2, List.append_assoc]; rfl
      · rw [← x3, parts_snoc]
        show _ = _ ++ _ ++ ([43] ++ []) ++ X
        simp
    rw [if_neg c2] at h
    by_cases c3 : byteAt t a = 58
    · rw [if_pos c3] at h
      by_cases h9 : r.length = 9
      · rw [if_pos h9] at h; cases h
      rw [if_neg h9] at h
      obtain ⟨X, x1, x2, x3, x4⟩ := rdIn_back f (a + 1) _ _ _ b c h ⟨hp, hi.rows, by rw [app_len]; omega, hi.row.2.2, by simp, fun x hx => absurd hx List.not_mem_nil⟩
      refine ⟨58 :: X, x1, ?_, ?_, x4⟩
      · rw [x2, htk, u8_of (c := U8 t a) (k := 58) c3, List.append_assoc]; rfl
      · rw [← x3, wPart_snoc (r ++ [bstr now]), if_neg (by simp)]
        show _ = _ ++ (_ ++ [58]) ++ X
        simp
    rw [if_neg c3] at h
    by_cases h5 : 32 ≤ byteAt t a ∧ byteAt t a ≤ 126
    case neg => rw [if_pos h5] at h; cases h
    rw [if_neg (not_not_intro h5)] at h
    by_cases c4 : byteAt t a = 63
    · rw [if_pos c4] at h
      by_cases h6 : a + 1 = t.size
      · rw [if_pos h6] at h; cases h
      rw [if_neg h6] at h
      have htk2 := take_U (t := t) (a := a + 1) (by omega)
      cases hm : markB (byteAt t (a + 1)) with
      | false => rw [hm, if_pos rfl] at h; cases h
      | true =>
        rw [hm, if_neg (by decide)] at h
        by_cases h40 : now.length = 40
        · rw [if_pos h40] at h; cases h
        rw [if_neg h40] at h
        have hmp := mark_plain hm
        obtain ⟨X, x1, x2, x3, x4⟩ := rdIn_back f (a + 2) _ _ _ b c h ⟨hp, hi.rows, hr, hi.txt, by rw [app_len]; omega, fun v hv => by
          rcases List.mem_append.1 hv with g | g
          · exact hi.now v g
          · rw [List.mem_singleton.1 g]; exact hmp⟩
        refine ⟨63 :: U8 t (a + 1) :: X, x1, ?_, ?_, x4⟩
        · rw [x2, htk2, htk, u8_of (c := U8 t a) (k := 63) c4]; simp
        · rw [← x3, byteAt_U t (a + 1), wPart_last, escB_marked (by rw [← byteAt_U]; exact hm)]; simp
    · rw [if_neg c4] at h
      by_cases h40 : now.length = 40
      · rw [if_pos h40] at h; cases h
      rw [if_neg h40] at h
      obtain ⟨X, x1, x2, x3, x4⟩ := rdIn_back f (a + 1) _ _ _ b c h ⟨hp, hi.rows, hr, hi.txt, by rw [app_len]; omega, fun v hv => by
        rcases List.mem_append.1 hv with g | g
        · exact hi.now v g
        · rw [List.mem_singleton.1 g]; exact h5⟩
      refine ⟨U8 t a :: X, x1, ?_, ?_, x4⟩
      · rw [x2, htk]; simp
      · rw [← x3, byteAt_U t a, wPart_last, escB_plain (by rw [← byteAt_U]; exact c1) (by rw [← byteAt_U]; exact c2) (by rw [← byteAt_U]; exact c3) (by rw [← byteAt_U]; exact c4)]; simp
end Go.Sm
end

section
set_option linter.unusedVariables false
set_option linter.unusedSimpArgs false
namespace Go.Sm
attribute [local irreducible] bd chk ix loopN
abbrev wr (l : List SSeg) : List UInt8 := wroteL (fun x => x.Tag) (fun x => x.Parts) l
def segR (s : SSeg) : Prop := s.Tag.size = 3 ∧ (∀ i, i < 3 → capB s.Tag i = true) ∧ partsR s.Parts
def segsR (l : List SSeg) : Prop := l.length ≤ 60 ∧ ∀ s ∈ l, segR s
theorem wr_snoc (l : List SSeg) (s : SSeg) : wr (l ++ [s]) = wr l ++ wSeg s.Tag s.Parts := by
  unfold wr wroteL
  rw [List.flatMap_append]; simp
theorem ext_bytes (t : ByteArray) (a b : Nat) : (t.extract a b).data.toList = (t.data.toList.drop a).take (b - a) := by
  rw [ByteArray.data_extract, Array.toList_extract, List.extract_eq_drop_take]
theorem ext_at {t : ByteArray} {a i : Nat} (hi : i < 3) (ha : a + 3 ≤ t.size) : byteAt (t.extract a (a + 3)) i = byteAt t (a + i) := by
  have h2 : a + 3 ≤ t.data.size := ha
  unfold byteAt
  rw [ByteArray.data_extract, Array.getD_eq_getD_getElem?, Array.getD_eq_getD_getElem?, Array.getElem?_extract, if_pos (by omega)]
theorem three {t : ByteArray} {a i : Nat} (h0 : capB t a = true) (h1 : capB t (a + 1) = true) (h2 : capB t (a + 2) = true) (hi : i < 3) : capB t (a + i) = true := by
  rcases (show i = 0 ∨ i = 1 ∨ i = 2 by omega) with rfl | rfl | rfl
  · exact h0
  · exact h1
  · exact h2
theorem rdOut_back {t : ByteArray} : ∀ (f a : Nat) (l L : List SSeg), rdOut t f a l = some L → segsR l → a ≤ t.size → t.data.toList.take a = wr l → wr L = t.data.toList ∧ segsR L
  | 0, _, _, _, h, _, _, _ => by cases h
  | f + 1, a, l, L, h, hl, hat, htk => by
    unfold rdOut at h
    by_cases ha : t.size ≤ a
    · rw [if_pos ha, Option.some.injEq] at h
      subst h
      rw [List.take_of_length_le (by simpa using ha)] at htk
      exact ⟨htk.symm, hl⟩
    rw [if_neg ha] at h
    by_cases h60 : l.length = 60
    · rw [if_pos h60] at h; cases h
    rw [if_neg h60] at h
    cases hh : headB t a with
    | false => rw [hh, if_pos rfl] at h; cases h
    | true =>
      rw [hh, if_neg (by decide)] at h
      obtain ⟨hb1, hb2⟩ := headB_at hh
      have hcaps : capB t a = true ∧ capB t (a + 1) = true ∧ capB t (a + 2) = true := by
        unfold headB at hh
        simp only [Bool.and_eq_true] at hh
        exact ⟨hh.2.1, hh.2.2.1, hh.2.2.2.1⟩
      have hl60 := hl.1
      have htag : t.data.toList.take (a + 3) = t.data.toList.take a ++ (t.extract a (a + 3)).data.toList := by
        rw [ext_bytes, List.take_add, Nat.add_sub_cancel_left]
      have hseg : ∀ c, partsR c → segR ⟨t.extract a (a + 3), c⟩ := fun c hc => ⟨by show (t.extract a (a + 3)).size = 3; rw [ByteArray.size_extract]; omega, fun i hi => by
        show capB (t.extract a (a + 3)) i = true
        have e : capB (t.extract a (a + 3)) i = capB t (a + i) := by unfold capB; rw [ext_at hi (by omega)]
        rw [e]
        exact three hcaps.1 hcaps.2.1 hcaps.2.2 hi, hc⟩
      have hnext : ∀ c, partsR c → segsR (l ++ [(⟨t.extract a (a + 3), c⟩ : SSeg)]) := fun c hc => ⟨by rw [app_len]; omega, fun x hx => by
        rcases List.mem_append.1 hx with g | g
        · exact hl.2 x g
        · rw [List.mem_singleton.1 g]; exact hseg c hc⟩
      have htk4 := take_U (t := t) (a := a + 3) hb1
      unfold rdFirst at h
      by_cases c1 : byteAt t (a + 3) = 39
      · rw [if_pos c1] at h
        dsimp only at h
        refine rdOut_back f (a + 3 + 1) _ L h (hnext [] ⟨by simp, fun x hx => absurd hx List.not_mem_nil⟩) (by omega) ?_
        rw [htk4, htag, htk, wr_snoc, u8_of (c := U8 t (a + 3)) (k := 39) c1]
        simp [wSeg]
      · rw [if_neg c1] at h
        cases hr : rdIn t (t.size + 1) (a + 3 + 1) [] [] [] with
        | none => rw [hr] at h; cases h
        | some y =>
          obtain ⟨b, c⟩ := y
          rw [hr] at h
          dsimp only at h
          obtain ⟨X, x1, x2, x3, x4⟩ := rdIn_back _ _ _ _ _ b c hr ⟨by simp, fun x hx => absurd hx List.not_mem_nil, by simp, fun x hx => absurd hx List.not_mem_nil, by simp, fun x hx => absurd hx List.not_mem_nil⟩
          refine rdOut_back f b _ L h (hnext c x4) x1 ?_
          have x3 : 43 :: X = c.flatMap wPart ++ [39] := x3
          have c2 : byteAt t (a + 3) = 43 := by omega
          rw [x2, htk4, htag, htk, wr_snoc, u8_of (c := U8 t (a + 3)) (k := 43) c2]
          show wr l ++ _ ++ [43] ++ X = wr l ++ (_ ++ (c.flatMap wPart ++ [39]))
          rw [← x3]; simp
end Go.Sm
end

section
set_option linter.unusedVariables false
set_option linter.unusedSimpArgs false
namespace Go.Sm
attribute [local irreducible] bd chk ix loopN
/-! ### What is written well is read so -/
theorem drop_cons {t : ByteArray} {a : Nat} {x : UInt8} {rest : List UInt8} (h : t.data.toList.drop a = x :: rest) : a < t.size ∧ byteAt t a = (x.toNat : Int) ∧ t.data.toList.drop (a + 1) = rest := by
  have ha : a < t.data.toList.length := by
    rcases Nat.lt_or_ge a t.data.toList.length with h1 | h1
    · exact h1
    · rw [List.drop_eq_nil_of_le h1] at h; cases h
  have ha2 : a < t.data.size := by simpa using ha
  rw [List.drop_eq_getElem_cons ha, List.cons.injEq] at h
  refine ⟨ha2, ?_, h.2⟩
  rw [byteAt_U, ← h.1]
  unfold U8
  rw [Array.getD_eq_getD_getElem?, Array.getElem?_eq_getElem ha2]
  simp
abbrev ints (u : List UInt8) : List Int := u.map fun x => (x.toNat : Int)
theorem bstr_ints (s : ByteArray) : bstr (ints s.data.toList) = s := by
  apply ByteArray.ext
  apply Array.toList_inj.1
  have e : ((fun x : Int => UInt8.ofNat x.toNat) ∘ fun x : UInt8 => (x.toNat : Int)) = id := by
    funext x; simp
  simp only [bstr, ints, List.map_map, e, List.map_id]
theorem escB_cases (x : UInt8) : (markB (x.toNat : Int) = true ∧ escB x = [63, x]) ∨ (¬ (x.toNat : Int) = 39 ∧ ¬ (x.toNat : Int) = 43 ∧ ¬ (x.toNat : Int) = 58 ∧ ¬ (x.toNat : Int) = 63 ∧ escB x = [x]) := by
  cases h : markB (x.toNat : Int) with
  | true => exact .inl ⟨rfl, escB_marked h⟩
  | false =>
    unfold markB at h
    simp only [Bool.or_eq_false_iff, decide_eq_false_iff_not] at h
    obtain ⟨h1, h2, h3, h4⟩ := h
    exact .inr ⟨h3, h1, h2, h4, escB_plain h3 h1 h2 h4⟩
theorem rdIn_fwd {t : ByteArray} {tail : List UInt8} : ∀ (f a : Nat) (P : List (List ByteArray)) (r : List ByteArray) (now : List Int) (u : List UInt8) (ts : List ByteArray) (Ps : List (List ByteArray)),
    t.data.toList.drop a = u.flatMap escB ++ (ts.flatMap (wText 58) ++ (Ps.flatMap wPart ++ 39 :: tail)) → (u.flatMap escB ++ (ts.flatMap (wText 58) ++ Ps.flatMap wPart)).length < f →
    now.length + u.length ≤ 40 → (∀ x ∈ u, 32 ≤ x.toNat ∧ x.toNat ≤ 126) → r.length + 1 + ts.length ≤ 10 → (∀ s ∈ ts, txtR s) → P.length + 1 + Ps.length ≤ 20 → (∀ p ∈ Ps, rowR p) →
    ∃ b, rdIn t f a P r now = some (b, P ++ [r ++ [bstr (now ++ ints u)] ++ ts] ++ Ps) ∧ t.data.toList.drop b = tail
  | 0, _, _, _, _, _, _, _, _, h, _, _, _, _, _, _ => absurd h (Nat.not_lt_zero _)
  | f + 1, a, P, r, now, x :: u, ts, Ps, hd, hf, hn, hu, hr, hts, hP, hPs => by
    have hx := hu x List.mem_cons_self
    have hu' : ∀ y ∈ u, 32 ≤ y.toNat ∧ y.toNat ≤ 126 := fun y hy => hu y (List.mem_cons_of_mem _ hy)
    rw [List.length_cons] at hn
    rw [List.flatMap_cons] at hd hf
    have e : bstr (now ++ ints (x :: u)) = bstr (now ++ [(x.toNat : Int)] ++ ints u) := by simp [ints]
    rcases escB_cases x with ⟨hm, he⟩ | ⟨h1, h2, h3, h4, he⟩
    · rw [he] at hd hf
      obtain ⟨a1, a2, a3⟩ := drop_cons (x := 63) (rest := x :: (u.flatMap escB ++ (ts.flatMap (wText 58) ++ (Ps.flatMap wPart ++ 39 :: tail)))) hd
      obtain ⟨b1, b2, b3⟩ := drop_cons a3
      have a2 : byteAt t a = 63 := a2
      obtain ⟨b, g1, g2⟩ := rdIn_fwd f (a + 2) P r (now ++ [(x.toNat : Int)]) u ts Ps b3 (by simp only [List.length_append, List.length_cons, List.length_nil] at hf ⊢; omega) (by rw [app_len]; omega) hu' hr hts hP hPs
      refine ⟨b, ?_, g2⟩
      rw [e]
      unfold rdIn
      rw [if_neg (by omega), if_neg (by omega), if_neg (by omega), if_neg (by omega), if_neg (not_not_intro (by omega)), if_pos a2, if_neg (by omega), b2, hm, if_neg (by decide), if_neg (by omega)]
      exact g1
    · rw [he] at hd hf
      obtain ⟨a1, a2, a3⟩ := drop_cons (x := x) (rest := u.flatMap escB ++ (ts.flatMap (wText 58) ++ (Ps.flatMap wPart ++ 39 :: tail))) hd
      obtain ⟨b, g1, g2⟩ := rdIn_fwd f (a + 1) P r (now ++ [(x.toNat : Int)]) u ts Ps a3 (by simp only [List.length_append, List.length_cons, List.length_nil] at hf ⊢; omega) (by rw [app_len]; omega) hu' hr hts hP hPs
      refine ⟨b, ?_, g2⟩
      rw [e]
      unfold rdIn
      rw [if_neg (by omega), a2, if_neg h1, if_neg h2, if_neg h3, if_neg (not_not_intro (by omega)), if_neg h4, if_neg (by omega)]
      exact g1
  | f + 1, a, P, r, now, [], s :: ts, Ps, hd, hf, hn, hu, hr, hts, hP, hPs => by
    have hs := hts s List.mem_cons_self
    have hts' : ∀ y ∈ ts, txtR y := fun y hy => hts y (List.mem_cons_of_mem _ hy)
    rw [List.length_cons] at hr
    rw [List.flatMap_nil, List.nil_append, List.flatMap_cons] at hd hf
    obtain ⟨a1, a2, a3⟩ := drop_cons (x := 58) (rest := s.data.toList.flatMap escB ++ (ts.flatMap (wText 58) ++ (Ps.flatMap wPart ++ 39 :: tail))) (by rw [hd]; simp [wText])
    have a2 : byteAt t a = 58 := a2
    obtain ⟨b, g1, g2⟩ := rdIn_fwd f (a + 1) P (r ++ [bstr now]) [] s.data.toList ts Ps a3 (by simp only [wText, List.length_append, List.length_cons] at hf ⊢; omega) (by have := hs.1; simp; exact this) hs.2 (by rw [app_len]; omega) hts' hP hPs
    refine ⟨b, ?_, g2⟩
    unfold rdIn
    rw [if_neg (by omega), if_neg (by omega), if_neg (by omega), if_pos a2, if_neg (by omega), g1, List.nil_append, bstr_ints]
    simp [ints]
  | f + 1, a, P, r, now, [], [], p :: Ps, hd, hf, hn, hu, hr, hts, hP, hPs => by
    have hp := hPs p List.mem_cons_self
    have hPs' : ∀ y ∈ Ps, rowR y := fun y hy => hPs y (List.mem_cons_of_mem _ hy)
    rw [List.length_cons] at hP
    cases p with
    | nil => exact absurd hp.1 (by simp)
    | cons s ts =>
      obtain ⟨hp1, hp2, hp3⟩ := hp
      have hs := hp3 s List.mem_cons_self
      rw [List.length_cons] at hp2
      rw [List.flatMap_nil, List.nil_append, List.flatMap_nil, List.nil_append, List.flatMap_cons] at hd hf
      obtain ⟨a1, a2, a3⟩ := drop_cons (x := 43) (rest := s.data.toList.flatMap escB ++ (ts.flatMap (wText 58) ++ (Ps.flatMap wPart ++ 39 :: tail))) (by rw [hd]; simp [wPart, wText])
      have a2 : byteAt t a = 43 := a2
      obtain ⟨b, g1, g2⟩ := rdIn_fwd f (a + 1) (P ++ [r ++ [bstr now]]) [] [] s.data.toList ts Ps a3 (by simp only [wPart, wText, List.length_append, List.length_cons] at hf ⊢; omega) (by have := hs.1; simp; exact this) hs.2 (by simp; omega) (fun y hy => hp3 y (List.mem_cons_of_mem _ hy)) (by rw [app_len]; omega) hPs'
      refine ⟨b, ?_, g2⟩
      unfold rdIn
      rw [if_neg (by omega), if_neg (by omega), if_pos a2, if_neg (by omega), g1, List.nil_append, List.nil_append, bstr_ints]
      simp [ints]
  | f + 1, a, P, r, now, [], [], [], hd, hf, hn, hu, hr, hts, hP, hPs => by
    obtain ⟨a1, a2, a3⟩ := drop_cons (x := 39) (rest := tail) (by rw [hd]; simp)
    have a2 : byteAt t a = 39 := a2
    refine ⟨a + 1, ?_, a3⟩
    unfold rdIn
    rw [if_neg (by omega), if_pos a2]
    simp [ints]
end Go.Sm
end

section
set_option linter.unusedVariables false
set_option linter.unusedSimpArgs false
namespace Go.Sm
attribute [local irreducible] bd chk ix loopN
theorem wr_cons (s : SSeg) (l : List SSeg) : wr (s :: l) = wSeg s.Tag s.Parts ++ wr l := by
  unfold wr wroteL
  rw [List.flatMap_cons]
theorem rdOut_fwd {t : ByteArray} : ∀ (f a : Nat) (l ls : List SSeg), t.data.toList.drop a = wr ls → ls.length < f → (∀ s ∈ ls, segR s) → l.length + ls.length ≤ 60 → rdOut t f a l = some (l ++ ls)
  | 0, _, _, _, _, h, _, _ => absurd h (Nat.not_lt_zero _)
  | f + 1, a, l, [], hd, hf, hs, hl => by
    have hsz : t.size ≤ a := by
      have : (t.data.toList.drop a).length = 0 := by rw [hd]; rfl
      rw [List.length_drop] at this
      have e : t.data.toList.length = t.size := by simp
      omega
    unfold rdOut
    rw [if_pos hsz, List.append_nil]
  | f + 1, a, l, s :: ls, hd, hf, hs, hl => by
    obtain ⟨h3, hcap, hparts⟩ := hs s List.mem_cons_self
    have hs' : ∀ x ∈ ls, segR x := fun x hx => hs x (List.mem_cons_of_mem _ hx)
    rw [List.length_cons] at hf hl
    obtain ⟨x0, x1, x2, htag⟩ : ∃ x0 x1 x2, s.Tag.data.toList = [x0, x1, x2] := by
      have e : s.Tag.data.toList.length = 3 := by simpa using h3
      match hh : s.Tag.data.toList, e with
      | [x0, x1, x2], _ => exact ⟨x0, x1, x2, rfl⟩
    rw [wr_cons] at hd
    have hd0 : t.data.toList.drop a = x0 :: x1 :: x2 :: (s.Parts.flatMap wPart ++ 39 :: wr ls) := by
      rw [hd]; unfold wSeg; rw [htag]; simp
    obtain ⟨a0, b0, d1⟩ := drop_cons hd0
    obtain ⟨a1, b1, d2⟩ := drop_cons d1
    obtain ⟨a2, b2, d3⟩ := drop_cons d2
    have hext : t.extract a (a + 3) = s.Tag := by
      apply ByteArray.ext
      apply Array.toList_inj.1
      rw [ext_bytes, Nat.add_sub_cancel_left, hd0, htag]; rfl
    have hcb : ∀ i, i < 3 → capB t (a + i) = true := fun i hi => by
      have e : capB (t.extract a (a + 3)) i = capB t (a + i) := by unfold capB; rw [ext_at hi (by omega)]
      rw [← e, hext]; exact hcap i hi
    have hlen : (s.Parts.flatMap wPart ++ 39 :: wr ls).length + (a + 3) ≤ t.size := by
      have e : t.data.toList.length = t.size := by simp
      have : (t.data.toList.drop (a + 2 + 1)).length = t.size - (a + 3) := by rw [List.length_drop, e]
      rw [d3] at this
      omega
    obtain ⟨hp20, hpr⟩ := hparts
    have hfin : ∀ (b : Nat) (c : List (List ByteArray)), rdFirst t (a + 3) = some (b, s.Parts) → t.data.toList.drop b = wr ls → (byteAt t (a + 3) = 43 ∨ byteAt t (a + 3) = 39) → a + 3 < t.size → rdOut t (f + 1) a l = some (l ++ s :: ls) := fun b c g1 g2 g3 g4 => by
      have hh : headB t a = true := by
        unfold headB
        have c0 := hcb 0 (by omega)
        have c1 := hcb 1 (by omega)
        have c2 := hcb 2 (by omega)
        rw [Nat.add_zero] at c0
        rw [decide_eq_true g4, c0, c1, c2]
        rcases g3 with g3 | g3
        · rw [decide_eq_true g3]; rfl
        · rw [decide_eq_true g3, Bool.or_true]; rfl
      unfold rdOut
      rw [if_neg (by omega), if_neg (by omega), hh, if_neg (by decide), g1]
      dsimp only
      rw [hext]
      have hsg : (⟨s.Tag, s.Parts⟩ : SSeg) = s := rfl
      rw [hsg, rdOut_fwd f b (l ++ [s]) ls g2 (by omega) hs' (by rw [app_len]; omega)]
      simp
    have d3' : t.data.toList.drop (a + 3) = s.Parts.flatMap wPart ++ 39 :: wr ls := d3
    cases hP : s.Parts with
    | nil =>
      rw [hP, List.flatMap_nil, List.nil_append] at d3'
      obtain ⟨q1, q2, q3⟩ := drop_cons d3'
      have q2 : byteAt t (a + 3) = 39 := q2
      refine hfin (a + 3 + 1) [] ?_ q3 (.inr q2) q1
      unfold rdFirst
      rw [if_pos q2, hP]
    | cons p Ps =>
      rw [hP] at d3' hp20 hpr hlen
      have hp := hpr p List.mem_cons_self
      cases p with
      | nil => exact absurd hp.1 (by simp)
      | cons s1 ts =>
        obtain ⟨hp1, hp2, hp3⟩ := hp
        rw [List.length_cons] at hp2 hp20
        rw [List.flatMap_cons] at d3' hlen
        obtain ⟨q1, q2, q3⟩ := drop_cons (x := 43) (rest := s1.data.toList.flatMap escB ++ (ts.flatMap (wText 58) ++ (Ps.flatMap wPart ++ 39 :: wr ls))) (by rw [d3']; simp [wPart, wText])
        have q2 : byteAt t (a + 3) = 43 := q2
        have hs1 := hp3 s1 List.mem_cons_self
        obtain ⟨b, g1, g2⟩ := rdIn_fwd (t.size + 1) (a + 3 + 1) [] [] [] s1.data.toList ts Ps q3 (by simp only [wPart, wText, List.length_append, List.length_cons] at hlen ⊢; omega) (by have := hs1.1; simp; exact this) hs1.2 (by simp; omega) (fun y hy => hp3 y (List.mem_cons_of_mem _ hy)) (by simp; omega) (fun y hy => hpr y (List.mem_cons_of_mem _ hy))
        refine hfin b [] ?_ g2 (.inl q2) q1
        unfold rdFirst
        rw [if_neg (by omega), g1, hP, List.nil_append, List.nil_append, List.nil_append, bstr_ints]
        simp
/-- What is written of a right list is read as it. -/
theorem read_written {n : Nat} {l : List SSeg} (hl : segsR l) (hsz : (wr l).length ≤ 2000) (hn : 1000000000 < n) : impl_ReadSegs n ⟨(wr l).toArray⟩ = some (l, 0, 0) := by
  have h := read_rd (n := n) ⟨(wr l).toArray⟩ hn
  have hs : (⟨(wr l).toArray⟩ : ByteArray).size = (wr l).length := rfl
  have hge : l.length ≤ (wr l).length := by
    clear h hs hsz hl
    induction l with
    | nil => exact Nat.zero_le _
    | cons s l ih => rw [wr_cons, List.length_append, List.length_cons]; unfold wSeg; simp; omega
  rw [if_pos (by omega), rdOut_fwd _ 0 [] l (by simp) (by omega) hl.2 (by have := hl.1; simpa using this)] at h
  exact h.1
/-- What reads well is written as the text; what does not is told in its bounds. -/
theorem read_any {n : Nat} (t : ByteArray) (hn : 1000000000 < n) : (∃ l, impl_ReadSegs n t = some (l, 0, 0) ∧ segsR l ∧ (wr l).length ≤ 2000 ∧ (⟨(wr l).toArray⟩ : ByteArray) = t) ∨ Err21 t (impl_ReadSegs n t) := by
  have h := read_rd (n := n) t hn
  by_cases hs : t.size ≤ 2000
  · rw [if_pos hs] at h
    cases hr : rdOut t (t.size + 1) 0 [] with
    | none => rw [hr] at h; exact .inr h
    | some l =>
      rw [hr] at h
      obtain ⟨h1, h2⟩ := rdOut_back _ 0 [] l hr ⟨by simp, fun x hx => absurd hx List.not_mem_nil⟩ (Nat.zero_le _) rfl
      refine .inl ⟨l, h.1, h2, ?_, ?_⟩
      · rw [h1]; simpa using hs
      · rw [h1]
  · rw [if_neg hs] at h; exact .inr h
end Go.Sm
end

section
set_option linter.unusedVariables false
set_option linter.unusedSimpArgs false
namespace Go.Sm
attribute [local irreducible] bd chk ix loopN
/-! ### Is it right? told by both -/
def txtB (s : ByteArray) : Bool := decide (s.size ≤ 40) && (List.range s.size).all fun j => decide (32 ≤ byteAt s j ∧ byteAt s j ≤ 126)
def rowB (r : List ByteArray) : Bool := decide (1 ≤ (r.length : Int) ∧ (r.length : Int) ≤ 10) && (List.range r.length).all fun k => txtB (r.getD k (str []))
def capsB (t : ByteArray) : Bool := capB t 0 && (capB t 1 && capB t 2)
def segB (s : SSeg) : Bool := decide (s.Tag.size = 3) && (decide (s.Parts.length ≤ 20) && (capsB s.Tag && (List.range s.Parts.length).all fun i => rowB (s.Parts.getD i [])))
def segsB (l : List SSeg) : Bool := decide (l.length ≤ 60) && ((List.range l.length).all (fun i => segB (l.getD i dSSeg)) && decide ((wr l).length ≤ 2000))
/-- What is drawn stays small. -/
def TextSm (s : ByteArray) : Prop := s.size ≤ 100
def RowSm (r : List ByteArray) : Prop := r.length ≤ 100 ∧ ∀ x ∈ r, TextSm x
def SegSm (s : SSeg) : Prop := s.Tag.size ≤ 100 ∧ s.Parts.length ≤ 100 ∧ ∀ r ∈ s.Parts, RowSm r
def SegsSm (l : List SSeg) : Prop := l.length ≤ 100 ∧ ∀ s ∈ l, SegSm s
theorem in_implE (n : Nat) (x a b : Int) : impl_in n x a b = some (decide (a ≤ x ∧ x ≤ b)) := by
  unfold impl_in
  by_cases h1 : x ≥ a
  · rw [decide_eq_true h1, cond_true]
    congr 1
    rw [decide_eq_decide]
    exact ⟨fun h => ⟨h1, h⟩, fun h => h.2⟩
  · rw [decide_eq_false h1, cond_false, decide_eq_false fun h => h1 h.1]
theorem text_impl {n : Nat} (s : ByteArray) (hs : s.size ≤ 100000) (hn : 1000000000 < n) : impl_ediText n s = some (txtB s) := by
  unfold impl_ediText txtB
  by_cases h : s.size ≤ 40
  · rw [decide_eq_false (show ¬ (s.size : Int) > 40 by omega), cond_false, decide_eq_true h, Bool.true_and]
    rw [loop_all (len := s.size) (p := fun j => decide (32 ≤ byteAt s j ∧ byteAt s j ≤ 126)) (no := some false) (yes := some true) (by omega) (fun k J hk _ => ?_) (fun J _ => ?_) (by omega)]
    · cases (List.range s.size).all fun j => decide (32 ≤ byteAt s j ∧ byteAt s j ≤ 126) <;> rfl
    · have e : w64 ((k : Int) + 1) = ((k + 1 : Nat) : Int) := w64_succ (by omega)
      unfold impl_ediText_L4
      rw [decide_eq_true (by omega), cond_true, ix_nat hk, Int.toNat_natCast, plain_impl, Option.bind_some, e]
      cases decide (32 ≤ byteAt s k ∧ byteAt s k ≤ 126) <;> rfl
    · unfold impl_ediText_L4
      rw [decide_eq_false (by omega), cond_false]
  · rw [decide_eq_true (show (s.size : Int) > 40 by omega), cond_true, decide_eq_false h]; rfl
theorem all_not_any {m : Nat} {q : Nat → Bool} : (!(List.range m).any fun k => !q k) = (List.range m).all q := by
  induction m with
  | zero => rfl
  | succ m ih => rw [all_range_succ, any_range_succ, ← ih]; cases (List.range m).any (fun k => !q k) <;> cases q m <;> rfl
theorem contains_txt {n : Nat} (r : List ByteArray) (hr : RowSm r) (hn : 1000000000 < n) : slices_ContainsFunc_string_string__impl_segRight_1 n r = some ((List.range r.length).any fun k => !txtB (r.getD k (str []))) := by
  have hl := hr.1
  unfold slices_ContainsFunc_string_string__impl_segRight_1 slices_IndexFunc_string_string__impl_segRight_1
  rw [loop_idx (len := r.length) (p := fun k => !txtB (r.getD k (str []))) (by omega) (fun k J hk _ => ?_) (fun J _ => ?_) (by omega), Option.bind_some, idxOf_ge]
  · have e2 : w64 ((k : Int) + 1) = ((k + 1 : Nat) : Int) := w64_succ (by omega)
    have hsm : (r.getD k (str [])).size ≤ 100 := hr.2 _ (getD_mem hk)
    unfold slices_IndexFunc_string_string__impl_segRight_1_L2 impl_segRight_1
    rw [decide_eq_true (by omega), cond_true, ix_nat hk, Int.toNat_natCast, text_impl _ (by omega) hn, Option.bind_some, Option.bind_some, e2]
  · unfold slices_IndexFunc_string_string__impl_segRight_1_L2
    rw [decide_eq_false (by omega), cond_false]
theorem seg_impl {n : Nat} (s : SSeg) (hs : SegSm s) (hn : 1000000000 < n) : impl_segRight n s = some (segB s) := by
  obtain ⟨h1, h2, h3⟩ := hs
  unfold impl_segRight segB
  by_cases ht : s.Tag.size = 3
  case neg => rw [decide_eq_false (show ¬ (s.Tag.size : Int) = 3 by omega), Bool.not_false, cond_true, decide_eq_false ht]; rfl
  rw [decide_eq_true (show (s.Tag.size : Int) = 3 by omega), Bool.not_true, cond_false, decide_eq_true ht, Bool.true_and, ix_of (by omega) (by omega), ix_of (by omega) (by omega), ix_of (by omega) (by omega), cap_impl, cap_impl, cap_impl]
  simp only [Option.bind_some]
  unfold capsB
  have hloop : loopN (fun (x : Int) J' => impl_segRight_L4 n (some (true)) (fun t26 => some (t26)) J' s.Parts (s.Parts.length : Int) x) n ((0 : Int)) = some ((List.range s.Parts.length).all fun i => rowB (s.Parts.getD i [])) := by
    rw [loop_all (len := s.Parts.length) (p := fun i => rowB (s.Parts.getD i [])) (no := some false) (yes := some true) (by omega) (fun k J hk _ => ?_) (fun J _ => ?_) (by omega)]
    · cases (List.range s.Parts.length).all fun i => rowB (s.Parts.getD i []) <;> rfl
    · have e : w64 ((k : Int) + 1) = ((k + 1 : Nat) : Int) := w64_succ (by omega)
      have hr := h3 _ (getD_mem (d := ([] : List ByteArray)) hk)
      unfold impl_segRight_L4 rowB
      rw [decide_eq_true (by omega), cond_true, ix_nat hk, Int.toNat_natCast, in_implE, Option.bind_some, contains_txt _ hr hn, Option.bind_some, e, ← all_not_any]
      cases decide (1 ≤ ((s.Parts.getD k []).length : Int) ∧ ((s.Parts.getD k []).length : Int) ≤ 10) <;> cases (List.range (s.Parts.getD k []).length).any (fun j => !txtB ((s.Parts.getD k []).getD j (str []))) <;> rfl
    · unfold impl_segRight_L4
      rw [decide_eq_false (by omega), cond_false]
  rw [hloop]
  by_cases hp : s.Parts.length ≤ 20
  · rw [decide_eq_false (show ¬ (s.Parts.length : Int) > 20 by omega), decide_eq_true hp]
    cases capB s.Tag 0 <;> cases capB s.Tag 1 <;> cases capB s.Tag 2 <;> rfl
  · rw [decide_eq_true (show (s.Parts.length : Int) > 20 by omega), decide_eq_false hp]
    cases capB s.Tag 0 <;> cases capB s.Tag 1 <;> cases capB s.Tag 2 <;> rfl
theorem seg_spec {n : Nat} (s : SSeg) (hs : SegSm s) (hn : 1000000000 < n) : spec_l21Seg n s = some (segB s) := by
  obtain ⟨h1, h2, h3⟩ := hs
  unfold spec_l21Seg segB
  by_cases ht : s.Tag.size = 3
  case neg => rw [decide_eq_false (show ¬ (s.Tag.size : Int) = 3 by omega), Bool.not_false, cond_true, decide_eq_false ht]; rfl
  rw [decide_eq_true (show (s.Tag.size : Int) = 3 by omega), Bool.not_true, cond_false, decide_eq_true ht, Bool.true_and]
  by_cases hp : s.Parts.length ≤ 20
  case neg => rw [decide_eq_true (show (s.Parts.length : Int) > 20 by omega), cond_true, decide_eq_false hp]; rfl
  rw [decide_eq_false (show ¬ (s.Parts.length : Int) > 20 by omega), cond_false, decide_eq_true hp, Bool.true_and]
  rw [loop_all (len := 3) (p := fun i => capB s.Tag i) (no := some false) (yes := some ((List.range s.Parts.length).all fun i => rowB (s.Parts.getD i []))) (by omega) (fun k J hk _ => ?_) (fun J _ => ?_) (by omega)]
  · have e : (List.range 3).all (fun i => capB s.Tag i) = capsB s.Tag := by
      show (capB s.Tag 0 && (capB s.Tag 1 && (capB s.Tag 2 && true))) = _
      rw [Bool.and_true]; rfl
    rw [e]
    cases capsB s.Tag <;> rfl
  · have e : w64 ((k : Int) + 1) = ((k + 1 : Nat) : Int) := w64_succ (by omega)
    unfold spec_l21Seg_L4
    rw [decide_eq_true (by omega), cond_true, ix_nat (by omega), Int.toNat_natCast, w64_byte, in_specE, Option.bind_some, e]
    unfold capB
    cases decide (65 ≤ byteAt s.Tag k ∧ byteAt s.Tag k ≤ 90) <;> rfl
  · unfold spec_l21Seg_L4
    rw [decide_eq_false (by omega), cond_false]
    rw [loop_all (len := s.Parts.length) (p := fun i => rowB (s.Parts.getD i [])) (no := some false) (yes := some true) (by omega) (fun i J hi _ => ?_) (fun J _ => ?_) (by omega)]
    · cases (List.range s.Parts.length).all fun i => rowB (s.Parts.getD i []) <;> rfl
    · have e : w64 ((i : Int) + 1) = ((i + 1 : Nat) : Int) := w64_succ (by omega)
      have hr := h3 _ (getD_mem (d := ([] : List ByteArray)) hi)
      have hrl := hr.1
      unfold spec_l21Seg_L9 spec_l21Seg_k1 rowB
      rw [decide_eq_true (by omega), cond_true, ix_nat hi, Int.toNat_natCast, in_specE, Option.bind_some, e]
      cases decide (1 ≤ ((s.Parts.getD i []).length : Int) ∧ ((s.Parts.getD i []).length : Int) ≤ 10) with
      | false => rfl
      | true =>
        rw [Bool.not_true, cond_false, Bool.true_and]
        rw [loop_all (len := (s.Parts.getD i []).length) (p := fun k => txtB ((s.Parts.getD i []).getD k (str []))) (no := some false) (yes := J ((i + 1 : Nat) : Int)) (by omega) (fun k J2 hk _ => ?_) (fun J2 _ => ?_) (by omega)]
        · have e2 : w64 ((k : Int) + 1) = ((k + 1 : Nat) : Int) := w64_succ (by omega)
          have hsm : ((s.Parts.getD i []).getD k (str [])).size ≤ 100 := hr.2 _ (getD_mem hk)
          unfold spec_l21Seg_L14 spec_l21Seg_k0 txtB
          rw [ix_nat hi, Int.toNat_natCast, decide_eq_true (by omega), cond_true, ix_nat hi, ix_nat hk, Int.toNat_natCast, e2]
          rw [loop_all (len := ((s.Parts.getD i []).getD k (str [])).size) (p := fun j => decide (32 ≤ byteAt ((s.Parts.getD i []).getD k (str [])) j ∧ byteAt ((s.Parts.getD i []).getD k (str [])) j ≤ 126)) (no := some false) (yes := bif decide ((((s.Parts.getD i []).getD k (str [])).size : Int) > 40) then some false else J2 ((k + 1 : Nat) : Int)) (by omega) (fun j J3 hj _ => ?_) (fun J3 _ => ?_) (by omega)]
          · by_cases h40 : ((s.Parts.getD i []).getD k (str [])).size ≤ 40
            · rw [decide_eq_false (show ¬ (((s.Parts.getD i []).getD k (str [])).size : Int) > 40 by omega), decide_eq_true h40]; rfl
            · rw [decide_eq_true (show (((s.Parts.getD i []).getD k (str [])).size : Int) > 40 by omega), decide_eq_false h40, cond_true, Bool.false_and]
              cases (List.range ((s.Parts.getD i []).getD k (str [])).size).all fun j => decide (32 ≤ byteAt ((s.Parts.getD i []).getD k (str [])) j ∧ byteAt ((s.Parts.getD i []).getD k (str [])) j ≤ 126) <;> rfl
          · have e3 : w64 ((j : Int) + 1) = ((j + 1 : Nat) : Int) := w64_succ (by omega)
            unfold spec_l21Seg_L18
            rw [decide_eq_true (by omega), cond_true, ix_nat hj, Int.toNat_natCast, w64_byte, in_specE, Option.bind_some, e3]
            cases decide (32 ≤ byteAt ((s.Parts.getD i []).getD k (str [])) j ∧ byteAt ((s.Parts.getD i []).getD k (str [])) j ≤ 126) <;> rfl
          · unfold spec_l21Seg_L18
            rw [decide_eq_false (by omega), cond_false]
        · unfold spec_l21Seg_L14
          rw [ix_nat hi, Int.toNat_natCast, decide_eq_false (by omega), cond_false]
    · unfold spec_l21Seg_L9
      rw [decide_eq_false (by omega), cond_false]
end Go.Sm
end

section
set_option linter.unusedVariables false
set_option linter.unusedSimpArgs false
namespace Go.Sm
attribute [local irreducible] bd chk ix loopN
/-! ### What the written-out way writes -/
theorem esc_len (l : List UInt8) : (l.flatMap escB).length ≤ 2 * l.length := by
  induction l with
  | nil => exact Nat.le_refl _
  | cons x r ih =>
    rw [List.flatMap_cons, List.length_append, List.length_cons]
    have : (escB x).length ≤ 2 := by rcases escB_cases x with ⟨_, h⟩ | ⟨_, _, _, _, h⟩ <;> rw [h] <;> simp
    omega
theorem ints_app (a b : List UInt8) : ints (a ++ b) = ints a ++ ints b := by simp [ints]
theorem ints_len (a : List UInt8) : (ints a).length = a.length := by simp [ints]
theorem w_chars {n : Nat} {K : List Int → Option (List Int)} {l : List SSeg} {i p k : Int} {t : ByteArray} {pre : List UInt8} (ht : t.size ≤ 100) (hpre : pre.length ≤ 1000000000) (hn : 1000000000 < n) :
    loopN (fun (x : Int × List Int) J' => spec_l21Write_L18 n K (fun j54 out55 => J' (j54, out55)) l i p k t x.1 x.2) n ((0 : Int), ints pre) = K (ints (pre ++ t.data.toList.flatMap escB)) := by
  refine loop_runS (enc := fun j (s : List Int) => (j, s)) (I := fun j s => s = ints (pre ++ (t.data.toList.take j).flatMap escB)) (Q := fun r => r = K (ints (pre ++ t.data.toList.flatMap escB))) (len := t.size) (fun j s J hj hI => ⟨_, rfl, ?_⟩) (fun s J hI => ?_) (by omega) (by simp)
  · have e : w64 ((j : Int) + 1) = ((j + 1 : Nat) : Int) := w64_succ (by omega)
    have hlen : s.length ≤ 1000000300 := by
      rw [hI, ints_len, List.length_append]
      have h1 := esc_len (t.data.toList.take j)
      have h2 : (t.data.toList.take j).length ≤ j := List.length_take_le _ _
      omega
    have hnext : ints (pre ++ (t.data.toList.take (j + 1)).flatMap escB) = s ++ ints (escB (U8 t j)) := by
      rw [hI, take_U hj, List.flatMap_append, ← List.append_assoc, ints_app (pre ++ _)]
      simp
    show spec_l21Write_L18 n K _ l i p k t (j : Int) s = J (_, _)
    rw [hnext]
    unfold spec_l21Write_L18 spec_l21Write_k0
    rw [decide_eq_true (by omega), cond_true, ix_nat hj, Int.toNat_natCast, mark_spec, Option.bind_some, ix_nat hj, ix_nat hj, bd_eq, bd_eq, e]
    rcases escB_cases (U8 t j) with ⟨h, he⟩ | ⟨h1, h2, h3, h4, he⟩
    · rw [byteAt_U, h, cond_true, chk_dec (by rw [List.length_append, List.length_singleton]; omega), chk_dec (by rw [List.length_append, List.length_append, List.length_singleton, List.length_singleton]; omega), he]
      simp [ints]
    · have hm : markB (byteAt t j) = false := by
        rw [byteAt_U]; unfold markB
        rw [decide_eq_false h2, decide_eq_false h3, decide_eq_false h1, decide_eq_false h4]; rfl
      rw [hm, cond_false, chk_dec (by rw [List.length_append, List.length_singleton]; omega), he, byteAt_U]
      rfl
  · show spec_l21Write_L18 n K _ l i p k t (t.size : Int) s = _
    unfold spec_l21Write_L18
    have e : t.data.toList.take t.size = t.data.toList := List.take_of_length_le (by simp)
    rw [decide_eq_false (by omega), cond_false, hI, e]
theorem wText_sm {m : UInt8} {t : ByteArray} (h : TextSm t) : (wText m t).length ≤ 201 := by
  have h1 := esc_len t.data.toList
  have e : t.data.toList.length = t.size := by simp
  have h : t.size ≤ 100 := h
  unfold wText
  rw [List.length_cons]; omega
theorem wPartK_sm {r : List ByteArray} (h : RowSm r) : ∀ k, k ≤ r.length → (wPartK r k).length ≤ 201 * k
  | 0, _ => Nat.zero_le _
  | k + 1, hk => by
    have h1 := wPartK_sm h k (by omega)
    have h2 := wText_sm (m := if k = 0 then 43 else 58) (h.2 _ (getD_mem (d := (⟨#[]⟩ : ByteArray)) (show k < r.length by omega)))
    rw [wPartK_step, List.length_append]; omega
theorem wParts_sm {P : List (List ByteArray)} (h : ∀ r ∈ P, RowSm r) : ∀ q, q ≤ P.length → (wParts P q).length ≤ 20100 * q
  | 0, _ => Nat.zero_le _
  | q + 1, hq => by
    have h1 := wParts_sm h q (by omega)
    have hr := h _ (getD_mem (d := ([] : List ByteArray)) (show q < P.length by omega))
    have h2 := wPartK_sm hr _ (Nat.le_refl _)
    have h3 := hr.1
    rw [wParts_step, List.length_append]; omega
abbrev segP (l : List SSeg) : List (ByteArray × List (List ByteArray)) := l.map fun s => (s.Tag, s.Parts)
theorem segP_get {l : List SSeg} {i : Nat} (hi : i < l.length) : (segP l).getD i (⟨#[]⟩, []) = ((l.getD i dSSeg).Tag, (l.getD i dSSeg).Parts) := by
  rw [List.getD_eq_getElem?_getD, List.getElem?_eq_getElem (by rw [List.length_map]; exact hi), getD_eq hi]
  simp
theorem wSegs_sm {l : List SSeg} (h : SegsSm l) : ∀ i, i ≤ l.length → (wSegs (segP l) i).length ≤ 2011000 * i
  | 0, _ => Nat.zero_le _
  | i + 1, hi => by
    have h1 := wSegs_sm h i (by omega)
    obtain ⟨s1, s2, s3⟩ := h.2 _ (getD_mem (d := dSSeg) (show i < l.length by omega))
    have h2 := wParts_sm s3 _ (Nat.le_refl _)
    rw [wSegs_step, segP_get (by omega), List.length_append, List.length_append, List.length_append, List.length_singleton]
    have e : (l.getD i dSSeg).Tag.data.toList.length = (l.getD i dSSeg).Tag.size := by simp
    dsimp only
    rw [e]; omega
theorem wr_eq (l : List SSeg) : wSegs (segP l) l.length = wr l := by
  have := wSegs_eq (fun s : SSeg => s.Tag) (fun s => s.Parts) l
  rw [List.length_map] at this
  exact this
theorem w_texts {n : Nat} {K : List Int → Option (List Int)} {l : List SSeg} {i p : Nat} {r : List ByteArray} {pre : List UInt8} (hi : i < l.length) (hp : p < (l.getD i dSSeg).Parts.length) (hr : (l.getD i dSSeg).Parts.getD p [] = r) (hsm : RowSm r) (hpre : pre.length ≤ 900000000) (hn : 1000000000 < n) :
    loopN (fun (x : Int × List Int) J' => spec_l21Write_L10 n K (fun k72 out73 => J' (k72, out73)) l (i : Int) (p : Int) x.1 x.2) n ((0 : Int), ints pre) = K (ints (pre ++ wPartK r r.length)) := by
  have hrl := hsm.1
  refine loop_runS (enc := fun k (s : List Int) => (k, s)) (I := fun k s => s = ints (pre ++ wPartK r k)) (Q := fun x => x = K (ints (pre ++ wPartK r r.length))) (len := r.length) (fun k s J hk hI => ⟨_, rfl, ?_⟩) (fun s J hI => ?_) (by omega) (by simp [wPartK])
  · have e : w64 ((k : Int) + 1) = ((k + 1 : Nat) : Int) := w64_succ (by omega)
    have hK := wPartK_sm hsm k (by omega)
    have hts : (r.getD k (⟨#[]⟩ : ByteArray)).size ≤ 100 := hsm.2 _ (getD_mem hk)
    have hlen : s.length ≤ 900100000 := by rw [hI, ints_len, List.length_append]; omega
    show spec_l21Write_L10 n K _ l (i : Int) (p : Int) (k : Int) s = J (_, _)
    unfold spec_l21Write_L10
    rw [ix_nat hi, bd_eq, Int.toNat_natCast, ix_nat hp, Int.toNat_natCast, hr, decide_eq_true (by omega), cond_true]
    have hstr : (r.getD k (str []) : ByteArray) = r.getD k ⟨#[]⟩ := rfl
    by_cases hk0 : k = 0
    · rw [decide_eq_true (by omega), cond_true]
      unfold spec_l21Write_k1
      rw [chk_dec (by rw [List.length_append, List.length_singleton]; omega), ix_nat hi, bd_eq, Int.toNat_natCast, ix_nat hp, Int.toNat_natCast, hr, ix_nat hk, Int.toNat_natCast, hstr, e]
      have e2 : s ++ [(43 : Int)] = ints (pre ++ wPartK r k ++ [43]) := by rw [hI, ints_app (pre ++ wPartK r k)]; rfl
      rw [e2, w_chars hts (by rw [List.length_append, List.length_append, List.length_singleton]; omega) hn]
      have e3 : pre ++ wPartK r k ++ [43] ++ (r.getD k (⟨#[]⟩ : ByteArray)).data.toList.flatMap escB = pre ++ wPartK r (k + 1) := by
        rw [wPartK_step, if_pos hk0]; simp [wText]
      rw [e3]
    · rw [decide_eq_false (by omega), cond_false]
      unfold spec_l21Write_k2
      rw [chk_dec (by rw [List.length_append, List.length_singleton]; omega), ix_nat hi, bd_eq, Int.toNat_natCast, ix_nat hp, Int.toNat_natCast, hr, ix_nat hk, Int.toNat_natCast, hstr, e]
      have e2 : s ++ [(58 : Int)] = ints (pre ++ wPartK r k ++ [58]) := by rw [hI, ints_app (pre ++ wPartK r k)]; rfl
      rw [e2, w_chars hts (by rw [List.length_append, List.length_append, List.length_singleton]; omega) hn]
      have e3 : pre ++ wPartK r k ++ [58] ++ (r.getD k (⟨#[]⟩ : ByteArray)).data.toList.flatMap escB = pre ++ wPartK r (k + 1) := by
        rw [wPartK_step, if_neg hk0]; simp [wText]
      rw [e3]
  · show spec_l21Write_L10 n K _ l (i : Int) (p : Int) (r.length : Int) s = _
    unfold spec_l21Write_L10
    rw [ix_nat hi, bd_eq, Int.toNat_natCast, ix_nat hp, Int.toNat_natCast, hr, decide_eq_false (by omega), cond_false, hI]
theorem w_parts {n : Nat} {K : List Int → Option (List Int)} {l : List SSeg} {i : Nat} {P : List (List ByteArray)} {pre : List UInt8} (hi : i < l.length) (hP : (l.getD i dSSeg).Parts = P) (hPl : P.length ≤ 100) (hsm : ∀ r ∈ P, RowSm r) (hpre : pre.length ≤ 800000000) (hn : 1000000000 < n) :
    loopN (fun (x : Int × List Int) J' => spec_l21Write_L7 n K (fun p75 out76 => J' (p75, out76)) l (i : Int) x.1 x.2) n ((0 : Int), ints pre) = K (ints (pre ++ wParts P P.length)) := by
  refine loop_runS (enc := fun k (s : List Int) => (k, s)) (I := fun k s => s = ints (pre ++ wParts P k)) (Q := fun x => x = K (ints (pre ++ wParts P P.length))) (len := P.length) (fun q s J hq hI => ⟨_, rfl, ?_⟩) (fun s J hI => ?_) (by omega) (by simp [wParts])
  · have e : w64 ((q : Int) + 1) = ((q + 1 : Nat) : Int) := w64_succ (by omega)
    have hK := wParts_sm hsm q (by omega)
    show spec_l21Write_L7 n K _ l (i : Int) (q : Int) s = J (_, _)
    unfold spec_l21Write_L7
    rw [ix_nat hi, bd_eq, Int.toNat_natCast, hP, decide_eq_true (by omega), cond_true, e, hI,
      w_texts hi (by rw [hP]; exact hq) (by rw [hP]) (hsm _ (getD_mem (d := ([] : List ByteArray)) hq)) (by rw [List.length_append]; omega) hn, wParts_step, List.append_assoc]
  · show spec_l21Write_L7 n K _ l (i : Int) (P.length : Int) s = _
    unfold spec_l21Write_L7
    rw [ix_nat hi, bd_eq, Int.toNat_natCast, hP, decide_eq_false (by omega), cond_false, hI]
theorem write_spec {n : Nat} {l : List SSeg} (hl : SegsSm l) (hn : 1000000000 < n) : spec_l21Write n l = some (ints (wr l)) := by
  have hll := hl.1
  unfold spec_l21Write
  refine loop_runS (enc := fun k (s : List Int) => (k, s)) (I := fun k s => s = ints (wSegs (segP l) k)) (Q := fun x => x = some (ints (wr l))) (len := l.length) (fun i s J hi hI => ⟨_, rfl, ?_⟩) (fun s J hI => ?_) (by omega) (by simp [wSegs])
  · have e : w64 ((i : Int) + 1) = ((i + 1 : Nat) : Int) := w64_succ (by omega)
    have hK := wSegs_sm hl i (by omega)
    obtain ⟨s1, s2, s3⟩ := hl.2 _ (getD_mem (d := dSSeg) hi)
    have hPs := wParts_sm s3 _ (Nat.le_refl _)
    have hst : strb (l.getD i dSSeg).Tag = ints (l.getD i dSSeg).Tag.data.toList := rfl
    have hsl : (strb (l.getD i dSSeg).Tag).length = (l.getD i dSSeg).Tag.size := by rw [hst, ints_len]; simp
    have hsz : s.length ≤ 300000000 := by rw [hI, ints_len]; omega
    show spec_l21Write_L3 n _ _ l (i : Int) s = J (_, _)
    unfold spec_l21Write_L3 spec_l21Write_k3
    rw [decide_eq_true (by omega), cond_true, ix_nat hi, bd_eq, Int.toNat_natCast, chk_dec (by rw [List.length_append, hsl]; omega), hI, hst, ← ints_app,
      w_parts hi rfl s2 s3 (by rw [List.length_append]; have e : (l.getD i dSSeg).Tag.data.toList.length = (l.getD i dSSeg).Tag.size := by simp
                               rw [e]; omega) hn, e, chk_dec (by
        rw [List.length_append, ints_len, List.length_append, List.length_append, List.length_singleton]
        have e : (l.getD i dSSeg).Tag.data.toList.length = (l.getD i dSSeg).Tag.size := by simp
        rw [e]; omega)]
    congr 2
    have h39 : ([39] : List Int) = ints [39] := rfl
    rw [h39, ← ints_app, wSegs_step, segP_get hi]
    simp
  · show spec_l21Write_L3 n _ _ l (l.length : Int) s = _
    unfold spec_l21Write_L3
    rw [decide_eq_false (by omega), cond_false, hI, wr_eq]
end Go.Sm
end

section
set_option linter.unusedVariables false
set_option linter.unusedSimpArgs false
namespace Go.Sm
attribute [local irreducible] bd chk ix loopN
/-! ### A list is right: the program's word and the law's are one -/
theorem contains_seg {n : Nat} {l : List SSeg} (hl : SegsSm l) (hn : 1000000000 < n) : sContains_SegsOk_1 n l = some ((List.range l.length).any fun k => !segB (l.getD k dSSeg)) := by
  have hll := hl.1
  unfold sContains_SegsOk_1 sIndex_SegsOk_1
  rw [loop_idx (len := l.length) (p := fun k => !segB (l.getD k dSSeg)) (by omega) (fun k J hk _ => ?_) (fun J _ => ?_) (by omega), Option.bind_some, idxOf_ge]
  · have e2 : w64 ((k : Int) + 1) = ((k + 1 : Nat) : Int) := w64_succ (by omega)
    have hsm : SegSm (l.getD k dSSeg) := hl.2 _ (getD_mem hk)
    unfold sIndex_SegsOk_1_L2 impl_SegsOk_1
    rw [decide_eq_true (by omega), cond_true, ix_nat hk, Int.toNat_natCast]
    simp only [bd_eq]
    rw [seg_impl _ hsm hn, Option.bind_some, Option.bind_some, e2]
  · unfold sIndex_SegsOk_1_L2
    rw [decide_eq_false (by omega), cond_false]
theorem wr_sm {l : List SSeg} (hl : SegsSm l) : (wr l).length ≤ 201100000 := by
  have h1 := hl.1
  have h := wSegs_sm hl l.length (Nat.le_refl _)
  rw [wr_eq] at h; omega
theorem written_eq {n : Nat} {l : List SSeg} (hl : SegsSm l) : impl_written n l = some ⟨(wr l).toArray⟩ := by
  have h := wr_sm hl
  unfold impl_written wroteO
  have e : (l.all fun s => decide (s.Parts.length ≤ 1000000)) = true := by
    rw [List.all_eq_true]
    intro s hs
    have := (hl.2 s hs).2.1
    exact decide_eq_true (by omega)
  rw [decide_eq_true (show (wr l).length ≤ 1000000000 by omega), e]; rfl
theorem wr_size (l : List SSeg) : (⟨(wr l).toArray⟩ : ByteArray).size = (wr l).length := by
  show (wr l).toArray.size = _
  rw [List.size_toArray]
theorem segs_impl {n : Nat} {l : List SSeg} (hl : SegsSm l) (hn : 1000000000 < n) : impl_SegsOk n l = some (segsB l) := by
  unfold impl_SegsOk segsB
  by_cases h60 : l.length ≤ 60
  case neg => rw [decide_eq_false (show ¬ (l.length : Int) ≤ 60 by omega), decide_eq_false h60]; rfl
  rw [decide_eq_true (show (l.length : Int) ≤ 60 by omega), decide_eq_true h60, cond_true, contains_seg hl hn, Option.bind_some, all_not_any, Bool.true_and]
  cases (List.range l.length).all fun i => segB (l.getD i dSSeg) with
  | false => rfl
  | true =>
    rw [cond_true, written_eq hl, Option.bind_some, wr_size, Bool.true_and]
    by_cases h : (wr l).length ≤ 2000
    · rw [decide_eq_true (show ((wr l).length : Int) ≤ 2000 by omega), decide_eq_true h]
    · rw [decide_eq_false (show ¬ ((wr l).length : Int) ≤ 2000 by omega), decide_eq_false h]
theorem segs_spec {n : Nat} {l : List SSeg} (hl : SegsSm l) (hn : 1000000000 < n) : spec_SegsOk n l = some (segsB l) := by
  have hll := hl.1
  unfold spec_SegsOk segsB
  by_cases h60 : l.length ≤ 60
  case neg => rw [decide_eq_true (show (l.length : Int) > 60 by omega), decide_eq_false h60]; rfl
  rw [decide_eq_false (show ¬ (l.length : Int) > 60 by omega), decide_eq_true h60, cond_false, Bool.true_and]
  rw [loop_all (len := l.length) (p := fun k => segB (l.getD k dSSeg)) (no := some false) (yes := some (decide ((wr l).length ≤ 2000))) (by omega) (fun k J hk _ => ?_) (fun J _ => ?_) (by omega)]
  · cases (List.range l.length).all fun i => segB (l.getD i dSSeg) <;> rfl
  · have e2 : w64 ((k : Int) + 1) = ((k + 1 : Nat) : Int) := w64_succ (by omega)
    have hsm : SegSm (l.getD k dSSeg) := hl.2 _ (getD_mem hk)
    unfold spec_SegsOk_L4
    rw [decide_eq_true (by omega), cond_true, ix_nat hk, Int.toNat_natCast, bd_eq, seg_spec _ hsm hn, Option.bind_some, e2]
    cases segB (l.getD k dSSeg) <;> rfl
  · unfold spec_SegsOk_L4
    rw [decide_eq_false (by omega), cond_false, write_spec hl hn, Option.bind_some, ints_len]
    by_cases h : (wr l).length ≤ 2000
    · rw [decide_eq_true (show ((wr l).length : Int) ≤ 2000 by omega), decide_eq_true h]
    · rw [decide_eq_false (show ¬ ((wr l).length : Int) ≤ 2000 by omega), decide_eq_false h]
theorem write_impl {n : Nat} {l : List SSeg} (hl : SegsSm l) (hn : 1000000000 < n) : impl_WriteSegs n l = some (bif segsB l then ((⟨(wr l).toArray⟩ : ByteArray), true) else (str [], false)) := by
  unfold impl_WriteSegs
  rw [segs_impl hl hn, Option.bind_some]
  cases segsB l with
  | false => rfl
  | true => rw [Bool.not_true, cond_false, written_eq hl]; rfl
end Go.Sm
end

section
set_option linter.unusedVariables false
set_option linter.unusedSimpArgs false
namespace Go.Sm
attribute [local irreducible] bd chk ix loopN
/-! ### Draws -/
structure CurOk (c : Sl1Cur) : Prop where
  i : 0 ≤ c.i ∧ c.i ≤ (c.b.length : Int)
  len : c.b.length ≤ 1048576
theorem and255 (v : Int) : 0 ≤ w64 (((BitVec.ofInt 64 v &&& BitVec.ofInt 64 (255 : Int)).toNat : Nat) : Int) ∧ w64 (((BitVec.ofInt 64 v &&& BitVec.ofInt 64 (255 : Int)).toNat : Nat) : Int) ≤ 255 := by
  have h : (BitVec.ofInt 64 v &&& BitVec.ofInt 64 (255 : Int)).toNat ≤ 255 := by
    rw [BitVec.toNat_and]
    exact Nat.and_le_right
  rw [w64_id (by omega) (by omega)]
  omega
theorem byte_ok {n : Nat} {c : Sl1Cur} (h : CurOk c) : ∃ v c', spec_l1Byte n c = some (v, c') ∧ (0 ≤ v ∧ v ≤ 255) ∧ CurOk c' := by
  have h1 := h.i
  have h2 := h.len
  unfold spec_l1Byte
  simp only [bd_eq]
  by_cases hc : c.i < (c.b.length : Int)
  · rw [decide_eq_true hc, cond_true, ix_of h1.1 hc]
    refine ⟨_, _, rfl, and255 _, ⟨?_, h2⟩⟩
    show 0 ≤ w64 (c.i + 1) ∧ w64 (c.i + 1) ≤ (c.b.length : Int)
    rw [w64_id (by omega) (by omega)]
    omega
  · rw [decide_eq_false hc, cond_false]
    exact ⟨_, _, rfl, and255 _, ⟨h1, h2⟩⟩
theorem below_ok {n : Nat} {c : Sl1Cur} (h : CurOk c) {m : Int} (hm : 1 ≤ m ∧ m ≤ 256) : ∃ v c', spec_l1Below n c m = some (v, c') ∧ (0 ≤ v ∧ v < m) ∧ CurOk c' := by
  obtain ⟨v, c', h1, h2, h3⟩ := byte_ok (n := n) h
  unfold spec_l1Below
  rw [decide_eq_false (show ¬ m ≤ 0 by omega), cond_false, decide_eq_true (show m ≤ 256 by omega), cond_true, h1, Option.bind_some, decide_eq_false (show ¬ m = 0 by omega), cond_false]
  exact ⟨_, _, rfl, ⟨Int.tmod_nonneg _ h2.1, Int.tmod_lt_of_pos _ (by omega)⟩, h3⟩
theorem new_ok {n : Nat} (code : List Int) (hc : code.length ≤ 1048576) (hn : 1000000000 < n) : ∃ c, spec_l1New n code = some c ∧ CurOk c := by
  have hw : w64 ((59059 : Int) + (code.length : Int)) = 59059 + (code.length : Int) := w64_id (by omega) (by omega)
  unfold spec_l1New
  rw [bd_eq]
  have key : ∀ m k h fu, k + m = code.length → m < fu → ∃ c, loopN (fun (x : Int × Int) J' => spec_l1New_L3 n (fun h16 => some ((⟨code, (0 : Int), h16⟩ : Sl1Cur))) (fun h17 i18 => J' (h17, i18)) code x.1 x.2) fu (h, (k : Int)) = some c ∧ CurOk c := by
    intro m
    induction m with
    | zero =>
      intro k h fu hk hfu
      obtain ⟨f, rfl⟩ : ∃ f, fu = f + 1 := ⟨fu - 1, by omega⟩
      rw [loopN_succ]
      refine ⟨⟨code, 0, h⟩, ?_, ⟨by show (0 : Int) ≤ 0 ∧ (0 : Int) ≤ (code.length : Int); omega, hc⟩⟩
      show spec_l1New_L3 n _ _ code h (k : Int) = _
      unfold spec_l1New_L3
      rw [decide_eq_false (by omega), cond_false]
    | succ m ih =>
      intro k h fu hk hfu
      obtain ⟨f, rfl⟩ : ∃ f, fu = f + 1 := ⟨fu - 1, by omega⟩
      rw [loopN_succ]
      have hstep : ∀ J : Int → Int → Option Sl1Cur, ∃ h', spec_l1New_L3 n (fun h16 => some ((⟨code, (0 : Int), h16⟩ : Sl1Cur))) J code h (k : Int) = J h' ((k + 1 : Nat) : Int) ∨ spec_l1New_L3 n (fun h16 => some ((⟨code, (0 : Int), h16⟩ : Sl1Cur))) J code h (k : Int) = some ⟨code, 0, h⟩ := by
        intro J
        unfold spec_l1New_L3 spec_l1New_k0
        rw [decide_eq_true (show (k : Int) < (code.length : Int) by omega), cond_true]
        cases decide ((k : Int) < 4000) with
        | true =>
          rw [cond_true, ix_nat (by omega), bd_eq, bd_eq, w64_succ (show k < 9223372036854775807 by omega)]
          exact ⟨_, .inl rfl⟩
        | false => exact ⟨0, .inr rfl⟩
      obtain ⟨h', e | e⟩ := hstep (fun h17 i18 => loopN (fun (x : Int × Int) J' => spec_l1New_L3 n (fun h16 => some ((⟨code, (0 : Int), h16⟩ : Sl1Cur))) (fun h17 i18 => J' (h17, i18)) code x.1 x.2) f (h17, i18))
      · obtain ⟨c, g1, g2⟩ := ih (k + 1) h' f (by omega) (by omega)
        exact ⟨c, e.trans g1, g2⟩
      · exact ⟨⟨code, 0, h⟩, e, ⟨by show (0 : Int) ≤ 0 ∧ (0 : Int) ≤ (code.length : Int); omega, hc⟩⟩
  exact key code.length 0 _ n (by omega) (by omega)
theorem onceB_ok {n : Nat} {c : Sl1Cur} (h : CurOk c) {m : Int} (hm : 1 ≤ m ∧ m ≤ 256) : ∃ v c', spec_l1Once n c m = some (v, c') ∧ CurOk c' := by
  obtain ⟨v, c', h1, h2, h3⟩ := below_ok (n := n) h hm
  unfold spec_l1Once
  rw [h1, Option.bind_some]
  exact ⟨_, _, rfl, h3⟩
/-! ### The draws -/
theorem pickB_ok {n : Nat} {c : Sl1Cur} (h : CurOk c) {l : List ByteArray} (hl : 1 ≤ l.length ∧ l.length ≤ 256) : ∃ v c', spec_l1Pick n c l = some (v, c') ∧ v ∈ l ∧ CurOk c' := by
  obtain ⟨v, c', h1, h2, h3⟩ := below_ok (n := n) h (m := (l.length : Int)) (by omega)
  unfold spec_l1Pick
  rw [h1, Option.bind_some, ix_of h2.1 h2.2]
  exact ⟨_, _, rfl, getD_mem (by omega), h3⟩
theorem pickM_ok {n : Nat} {c : Sl1Cur} (h : CurOk c) {l : List Int} (hl : 1 ≤ l.length ∧ l.length ≤ 256) : ∃ v c', spec_l1PickInt n c l = some (v, c') ∧ v ∈ l ∧ CurOk c' := by
  obtain ⟨v, c', h1, h2, h3⟩ := below_ok (n := n) h (m := (l.length : Int)) (by omega)
  unfold spec_l1PickInt
  rw [h1, Option.bind_some, ix_of h2.1 h2.2]
  exact ⟨_, _, rfl, getD_mem (by omega), h3⟩
theorem mem_snoc {α : Type} {p : α → Prop} {l : List α} {x : α} (h : ∀ y ∈ l, p y) (hx : p x) : ∀ y ∈ l ++ [x], p y := by
  intro y hy
  rcases List.mem_append.1 hy with h1 | h1
  · exact h y h1
  · rw [List.mem_singleton.1 h1]; exact hx
theorem sz_ten : ∀ s ∈ [str [97], str [90], str [55], str [32], str [43], str [58], str [39], str [63], str [126], str [45]], s.size = 1 := by decide +kernel
theorem sz_tags : ∀ s ∈ [str [85, 78, 72], str [66, 71, 77], str [76, 79, 67], str [69, 81, 68], str [85, 78, 84]], s.size ≤ 100 := by decide +kernel
theorem sz_odd : ∀ s ∈ [str [], str [65, 66], str [65, 98, 67], str [65, 66, 67, 68], str [65, 49, 67]], s.size ≤ 100 := by decide +kernel
theorem text_loop {R : Type} {Q : Option R → Prop} {n : Nat} {K : List Int → Sl1Cur → Option R} {v : Int} {c : Sl1Cur} (h : CurOk c) (hv : 0 ≤ v ∧ v ≤ 60) (hn : 1000000000 < n) (hK : ∀ b c', b.length ≤ 60 → CurOk c' → Q (K b c')) :
    Q (loopN (fun (x : Int × Sl1Cur × List Int) J' => spec_l21DrawText_L6 n K (fun i22 p23 b24 => J' (i22, p23, b24)) v x.1 x.2.1 x.2.2) n ((0 : Int), c, [])) := by
  refine loopN_ind (fun (x : Int × Sl1Cur × List Int) => (v - x.1).toNat) (fun (x : Int × Sl1Cur × List Int) => 0 ≤ x.1 ∧ x.1 ≤ v ∧ (x.2.2.length : Int) = x.1 ∧ CurOk x.2.1) (fun _ r => Q r) ?_ n _ ⟨by show (0 : Int) ≤ 0; omega, hv.1, rfl, h⟩ (by show (v - 0).toNat < n; omega)
  rintro ⟨i, c, b⟩ J ⟨h1, h2, h3, h4⟩ ih
  dsimp only at h1 h2 h3 h4
  show Q (spec_l21DrawText_L6 n K _ v i c b)
  unfold spec_l21DrawText_L6 spec_l21DrawText_k0
  by_cases hi : i < v
  · obtain ⟨u, c', e, hu, hc⟩ := pickB_ok (n := n) h4 (l := [str [97], str [90], str [55], str [32], str [43], str [58], str [39], str [63], str [126], str [45]]) (by decide)
    have hsz := sz_ten u hu
    rw [decide_eq_true hi, cond_true, e, Option.bind_some, ix_of (by omega) (by show (0 : Int) < (u.size : Int); omega), chk_dec (by rw [app_len]; omega), w64_id (by omega) (by omega)]
    exact ih (i + 1, c', b ++ [byteAt u 0]) ⟨by show 0 ≤ i + 1; omega, by show i + 1 ≤ v; omega, by show ((b ++ [byteAt u 0]).length : Int) = i + 1; rw [app_len]; omega, hc⟩ (by show (v - (i + 1)).toNat < (v - i).toNat; omega)
  · rw [decide_eq_false hi, cond_false]
    exact hK _ _ (by omega) h4
theorem text_draw {n : Nat} {c : Sl1Cur} (h : CurOk c) (hn : 1000000000 < n) : ∃ s c', spec_l21DrawText n c = some (s, c') ∧ TextSm s ∧ CurOk c' := by
  obtain ⟨v, c1, e1, hv, h1⟩ := below_ok (n := n) h (m := 8) (by omega)
  obtain ⟨o, c2, e2, h2⟩ := onceB_ok (n := n) h1 (m := 40) (by omega)
  unfold spec_l21DrawText
  rw [e1, Option.bind_some, e2, Option.bind_some]
  cases o with
  | false =>
    rw [cond_false]
    exact text_loop (Q := fun r => ∃ s c', r = some (s, c') ∧ TextSm s ∧ CurOk c') h2 (by dsimp only; omega) hn fun b c' hb hc => ⟨_, _, rfl, by show (bstr b).size ≤ 100; rw [bstr_size]; omega, hc⟩
  | true =>
    obtain ⟨w, c3, e3, hw, h3⟩ := below_ok (n := n) h2 (m := 3) (by omega)
    rw [cond_true, e3, Option.bind_some, bd_eq]
    exact text_loop (Q := fun r => ∃ s c', r = some (s, c') ∧ TextSm s ∧ CurOk c') h3 (by dsimp only; rw [w64_id (by omega) (by omega)]; omega) hn fun b c' hb hc => ⟨_, _, rfl, by show (bstr b).size ≤ 100; rw [bstr_size]; omega, hc⟩
theorem row_draw {R : Type} {n : Nat} {Q : Option R → Prop} {K : Sl1Cur → List ByteArray → Option R} {i10 p16 : Int} {out : List SSeg} {s : ByteArray} {c18 : List (List ByteArray)} {v : Int} {c : Sl1Cur} (h : CurOk c) (hv : 0 ≤ v ∧ v ≤ 4) (hn : 1000000000 < n)
    (hK : ∀ c' part, CurOk c' → RowSm part → Q (K c' part)) : Q (loopN (fun (x : Int × Sl1Cur × List ByteArray) J' => spec_l21DrawSegs_L11 n K (fun k36 p37 part38 => J' (k36, p37, part38)) i10 p16 x.1 x.2.1 out s c18 x.2.2) n (v, c, [])) := by
  refine loopN_ind (fun (x : Int × Sl1Cur × List ByteArray) => x.1.toNat) (fun (x : Int × Sl1Cur × List ByteArray) => 0 ≤ x.1 ∧ (x.2.2.length : Int) + x.1 ≤ 4 ∧ CurOk x.2.1 ∧ ∀ t ∈ x.2.2, TextSm t) (fun _ r => Q r) ?_ n _ ⟨hv.1, by show ((0 : Nat) : Int) + v ≤ 4; omega, h, by simp⟩ (by show v.toNat < n; omega)
  rintro ⟨k, c, part⟩ J ⟨h1, h2, h3, h4⟩ ih
  dsimp only at h1 h2 h3 h4
  show Q (spec_l21DrawSegs_L11 n K _ i10 p16 k c out s c18 part)
  unfold spec_l21DrawSegs_L11
  by_cases hk : k > 0
  · obtain ⟨t, c', e, hs, hc⟩ := text_draw (n := n) h3 hn
    rw [decide_eq_true hk, cond_true, e, Option.bind_some, chk_dec (by rw [app_len]; omega), w64_id (by omega) (by omega)]
    exact ih (k - 1, c', part ++ [t]) ⟨by show 0 ≤ k - 1; omega, by show ((part ++ [t]).length : Int) + (k - 1) ≤ 4; rw [app_len]; omega, hc, mem_snoc h4 hs⟩ (by show (k - 1).toNat < k.toNat; omega)
  · rw [decide_eq_false hk, cond_false]
    exact hK _ _ h3 ⟨by omega, h4⟩
theorem parts_draw {R : Type} {n : Nat} {Q : Option R → Prop} {K : Sl1Cur → List (List ByteArray) → Option R} {i10 : Int} {out : List SSeg} {s : ByteArray} {v : Int} {c : Sl1Cur} (h : CurOk c) (hv : 0 ≤ v ∧ v ≤ 4) (hn : 1000000000 < n)
    (hK : ∀ c' P, CurOk c' → P.length ≤ 100 → (∀ r ∈ P, RowSm r) → Q (K c' P)) : Q (loopN (fun (x : Int × Sl1Cur × List (List ByteArray)) J' => spec_l21DrawSegs_L7 n K (fun k36 p37 part38 => J' (k36, p37, part38)) i10 x.1 x.2.1 out s x.2.2) n (v, c, [])) := by
  refine loopN_ind (fun (x : Int × Sl1Cur × List (List ByteArray)) => x.1.toNat) (fun (x : Int × Sl1Cur × List (List ByteArray)) => 0 ≤ x.1 ∧ (x.2.2.length : Int) + x.1 ≤ 4 ∧ CurOk x.2.1 ∧ ∀ t ∈ x.2.2, RowSm t) (fun _ r => Q r) ?_ n _ ⟨hv.1, by show ((0 : Nat) : Int) + v ≤ 4; omega, h, by simp⟩ (by show v.toNat < n; omega)
  rintro ⟨p, c, P⟩ J ⟨h1, h2, h3, h4⟩ ih
  dsimp only at h1 h2 h3 h4
  show Q (spec_l21DrawSegs_L7 n K _ i10 p c out s P)
  unfold spec_l21DrawSegs_L7 spec_l21DrawSegs_k0
  by_cases hk : p > 0
  · obtain ⟨w, c1, e1, hw, hc1⟩ := below_ok (n := n) h3 (m := 3) (by omega)
    rw [decide_eq_true hk, cond_true, e1, Option.bind_some, bd_eq]
    refine row_draw (Q := Q) hc1 (by dsimp only; rw [w64_id (by omega) (by omega)]; omega) hn fun c' r hc hr => ?_
    rw [chk_dec (by rw [app_len]; omega), w64_id (by omega) (by omega)]
    exact ih (p - 1, c', P ++ [r]) ⟨by show 0 ≤ p - 1; omega, by show ((P ++ [r]).length : Int) + (p - 1) ≤ 4; rw [app_len]; omega, hc, mem_snoc h4 hr⟩ (by show (p - 1).toNat < p.toNat; omega)
  · rw [decide_eq_false hk, cond_false]
    exact hK _ _ h3 (by omega) h4
theorem segs_draw {R : Type} {n : Nat} {Q : Option R → Prop} {K : Sl1Cur → List SSeg → Option R} {v : Int} {c : Sl1Cur} (h : CurOk c) (hv : 0 ≤ v ∧ v ≤ 6) (hn : 1000000000 < n)
    (hK : ∀ c' l, CurOk c' → l.length ≤ 6 → (∀ s ∈ l, SegSm s) → Q (K c' l)) : Q (loopN (fun (x : Int × Sl1Cur × List SSeg) J' => spec_l21DrawSegs_L3 n K (fun k36 p37 part38 => J' (k36, p37, part38)) x.1 x.2.1 x.2.2) n (v, c, [])) := by
  refine loopN_ind (fun (x : Int × Sl1Cur × List SSeg) => x.1.toNat) (fun (x : Int × Sl1Cur × List SSeg) => 0 ≤ x.1 ∧ (x.2.2.length : Int) + x.1 ≤ 6 ∧ CurOk x.2.1 ∧ ∀ t ∈ x.2.2, SegSm t) (fun _ r => Q r) ?_ n _ ⟨hv.1, by show ((0 : Nat) : Int) + v ≤ 6; omega, h, by simp⟩ (by show v.toNat < n; omega)
  rintro ⟨p, c, P⟩ J ⟨h1, h2, h3, h4⟩ ih
  dsimp only at h1 h2 h3 h4
  show Q (spec_l21DrawSegs_L3 n K _ p c P)
  unfold spec_l21DrawSegs_L3 spec_l21DrawSegs_k1
  by_cases hk : p > 0
  · obtain ⟨t, c0, e0, ht, hc0⟩ := pickB_ok (n := n) h3 (l := [str [85, 78, 72], str [66, 71, 77], str [76, 79, 67], str [69, 81, 68], str [85, 78, 84]]) (by decide)
    obtain ⟨w, c1, e1, hw, hc1⟩ := below_ok (n := n) hc0 (m := 4) (by omega)
    rw [decide_eq_true hk, cond_true, e0, Option.bind_some, e1, Option.bind_some]
    refine parts_draw (Q := Q) hc1 (by dsimp only; omega) hn fun c' r hc hr hr2 => ?_
    rw [bd_eq, chk_dec (by rw [app_len]; omega), w64_id (by omega) (by omega)]
    exact ih (p - 1, c', P ++ [⟨t, r⟩]) ⟨by show 0 ≤ p - 1; omega, by show ((P ++ [(⟨t, r⟩ : SSeg)]).length : Int) + (p - 1) ≤ 6; rw [app_len]; omega, hc, mem_snoc h4 ⟨sz_tags t ht, hr, hr2⟩⟩ (by show (p - 1).toNat < p.toNat; omega)
  · rw [decide_eq_false hk, cond_false]
    exact hK _ _ h3 (by omega) h4
end Go.Sm
end

section
set_option linter.unusedVariables false
set_option linter.unusedSimpArgs false
namespace Go.Sm
attribute [local irreducible] bd chk ix loopN
theorem set_loop {R : Type} {Q : Option R → Prop} {n : Nat} {K : List SSeg → Option R} {out : List SSeg} {c : Sl1Cur} (h1 : 1 ≤ out.length) (hl : out.length ≤ 7) (hs : ∀ s ∈ out, SegSm s) (hn : 1000000000 < n) (hK : ∀ l, l.length ≤ 7 → (∀ s ∈ l, SegSm s) → Q (K l)) :
    Q (loopN (fun (x : Int × List SSeg) J' => spec_l21DrawSegs_L22 n K (fun p66 out67 => J' (p66, out67)) x.1 x.2 c) n ((0 : Int), out)) := by
  refine loopN_ind (fun (x : Int × List SSeg) => (100 - x.1).toNat) (fun (x : Int × List SSeg) => (0 ≤ x.1 ∧ x.1 ≤ 100) ∧ (1 ≤ x.2.length ∧ x.2.length ≤ 7) ∧ ∀ t ∈ x.2, SegSm t) (fun _ r => Q r) ?_ n _ ⟨by show (0 : Int) ≤ 0 ∧ (0 : Int) ≤ 100; omega, ⟨h1, hl⟩, hs⟩ (by show ((100 : Int) - 0).toNat < n; omega)
  rintro ⟨p, P⟩ J ⟨g1, g2, g3⟩ ih
  dsimp only at g1 g2 g3
  show Q (spec_l21DrawSegs_L22 n K _ p P c)
  have e1 : w64 ((P.length : Int) - 1) = ((P.length - 1 : Nat) : Int) := by rw [w64_id (by omega) (by omega)]; omega
  obtain ⟨s1, s2, s3⟩ := g3 _ (getD_mem (d := dSSeg) (show P.length - 1 < P.length by omega))
  have hlt : P.length - 1 < P.length := by omega
  unfold spec_l21DrawSegs_L22 spec_l21DrawSegs_k2
  rw [bd_eq, e1, ix_nat hlt, Int.toNat_natCast, chk_dec hlt, chk_dec hlt]
  by_cases hp : p < ((P.getD (P.length - 1) dSSeg).Parts.length : Int)
  · have hp2 : p.toNat < (P.getD (P.length - 1) dSSeg).Parts.length := by omega
    rw [decide_eq_true hp, cond_true, bd_eq, ix_nat hlt, Int.toNat_natCast, chk_dec hlt, chk_dec hlt, ix_of g1.1 hp, chk_dec hlt, chk_dec hp2, bd_eq, chk_dec rfl, chk_dec hlt, bd_eq, w64_id (by omega) (by omega)]
    refine ih (p + 1, _) ⟨by show 0 ≤ p + 1 ∧ p + 1 ≤ 100; omega, by dsimp only; rw [List.length_set]; exact g2, ?_⟩ (by show (100 - (p + 1)).toNat < (100 - p).toNat; omega)
    intro t ht
    rcases List.mem_or_eq_of_mem_set ht with h | h
    · exact g3 t h
    · rw [h]
      refine ⟨s1, by show (List.set _ _ _).length ≤ 100; rw [List.length_set]; exact s2, fun r hr => ?_⟩
      rcases List.mem_or_eq_of_mem_set hr with h | h
      · exact s3 r h
      · rw [h]
        refine ⟨by show (1 : Nat) ≤ 100; omega, fun x hx => ?_⟩
        rw [List.mem_singleton.1 hx]
        show (str [120]).size ≤ 100
        decide +kernel
  · rw [decide_eq_false hp, cond_false]
    exact hK _ g2.2 g3
theorem sz_tic : (str [84, 73, 67]).size ≤ 100 := by decide +kernel
theorem sz_big : (str [66, 73, 71]).size ≤ 100 := by decide +kernel
theorem sz_endT : (str [69, 78, 68]).size ≤ 100 := by decide +kernel
theorem sz_oddT : (str [79, 68, 68]).size ≤ 100 := by decide +kernel
theorem sz_nilT : (str []).size ≤ 100 := by decide +kernel
theorem sz_40 : (str [48, 49, 50, 51, 52, 53, 54, 55, 56, 57, 48, 49, 50, 51, 52, 53, 54, 55, 56, 57, 48, 49, 50, 51, 52, 53, 54, 55, 56, 57, 48, 49, 50, 51, 52, 53, 54, 55, 56, 57]).size ≤ 100 := by decide +kernel
theorem sz_6 : (str [48, 49, 50, 51, 52, 53]).size ≤ 100 := by decide +kernel
theorem sz_23 : (str [48, 49, 50, 51, 52, 53, 54, 55, 56, 57, 48, 49, 50, 51, 52, 53, 54, 55, 56, 57, 48, 49, 50]).size ≤ 100 := by decide +kernel
theorem seg_nil {t : ByteArray} (h : t.size ≤ 100) : SegSm ⟨t, []⟩ := ⟨h, by show (0 : Nat) ≤ 100; omega, fun r hr => by cases hr⟩
theorem tic_loop {R : Type} {Q : Option R → Prop} {n : Nat} {K : List SSeg → Option R} {v : Int} {c : Sl1Cur} (hv : 0 ≤ v ∧ v ≤ 61) (hn : 1000000000 < n) (hK : ∀ l, l.length ≤ 61 → (∀ s ∈ l, SegSm s) → Q (K l)) :
    Q (loopN (fun (x : Int × List SSeg) J' => spec_l21DrawSegs_L32 n K (fun p66 out67 => J' (p66, out67)) x.1 x.2 c) n (v, [])) := by
  refine loopN_ind (fun (x : Int × List SSeg) => x.1.toNat) (fun (x : Int × List SSeg) => 0 ≤ x.1 ∧ (x.2.length : Int) + x.1 ≤ 61 ∧ ∀ t ∈ x.2, SegSm t) (fun _ r => Q r) ?_ n _ ⟨hv.1, by show ((0 : Nat) : Int) + v ≤ 61; omega, by simp⟩ (by show v.toNat < n; omega)
  rintro ⟨p, P⟩ J ⟨h1, h2, h4⟩ ih
  dsimp only at h1 h2 h4
  show Q (spec_l21DrawSegs_L32 n K _ p P c)
  unfold spec_l21DrawSegs_L32
  by_cases hk : p > 0
  · rw [decide_eq_true hk, cond_true, bd_eq, chk_dec (by rw [app_len]; omega), w64_id (by omega) (by omega)]
    exact ih (p - 1, P ++ [⟨str [84, 73, 67], []⟩]) ⟨by show 0 ≤ p - 1; omega, by show ((P ++ [(⟨str [84, 73, 67], []⟩ : SSeg)]).length : Int) + (p - 1) ≤ 61; rw [app_len]; omega, mem_snoc h4 (seg_nil sz_tic)⟩ (by show (p - 1).toNat < p.toNat; omega)
  · rw [decide_eq_false hk, cond_false]
    exact hK _ (by omega) h4
theorem rows_loop {R : Type} {Q : Option R → Prop} {n : Nat} {K : List (List ByteArray) → Option R} {i : Int} {c : Sl1Cur} {out : List SSeg} {s : ByteArray} (hn : 1000000000 < n) (hK : ∀ l, l.length ≤ 20 → (∀ s ∈ l, RowSm s) → Q (K l)) :
    Q (loopN (fun (x : Int × List (List ByteArray)) J' => spec_l21DrawSegs_L42 n K (fun p66 out67 => J' (p66, out67)) i x.1 c out s x.2) n ((0 : Int), [])) := by
  refine loopN_ind (fun (x : Int × List (List ByteArray)) => (20 - x.1).toNat) (fun (x : Int × List (List ByteArray)) => 0 ≤ x.1 ∧ x.1 ≤ 20 ∧ (x.2.length : Int) = x.1 ∧ ∀ t ∈ x.2, RowSm t) (fun _ r => Q r) ?_ n _ ⟨by show (0 : Int) ≤ 0; omega, by show (0 : Int) ≤ 20; omega, rfl, by simp⟩ (by show ((20 : Int) - 0).toNat < n; omega)
  rintro ⟨p, P⟩ J ⟨h1, h2, h3, h4⟩ ih
  dsimp only at h1 h2 h3 h4
  show Q (spec_l21DrawSegs_L42 n K _ i p c out s P)
  unfold spec_l21DrawSegs_L42 spec_l21DrawSegs_k3
  by_cases hk : p < 20
  · rw [decide_eq_true hk, cond_true, bd_eq, chk_dec (by rw [app_len]; omega), w64_id (by omega) (by omega)]
    refine ih (p + 1, _) ⟨by show 0 ≤ p + 1; omega, by show p + 1 ≤ 20; omega, by dsimp only; rw [app_len]; omega, mem_snoc h4 ⟨by show (2 : Nat) ≤ 100; omega, fun x hx => ?_⟩⟩ (by show (20 - (p + 1)).toNat < (20 - p).toNat; omega)
    rcases List.mem_cons.1 hx with h | h
    · rw [h]; exact sz_40
    · rw [List.mem_singleton.1 h]; exact sz_6
  · rw [decide_eq_false hk, cond_false]
    exact hK _ (by omega) h4
theorem big_loop {R : Type} {Q : Option R → Prop} {n : Nat} {K : List SSeg → Option R} {c : Sl1Cur} (hn : 1000000000 < n) (hK : ∀ l, l.length ≤ 2 → (∀ s ∈ l, SegSm s) → Q (K l)) :
    Q (loopN (fun (x : Int × List SSeg) J' => spec_l21DrawSegs_L38 n K (fun p66 out67 => J' (p66, out67)) x.1 c x.2) n ((0 : Int), [])) := by
  refine loopN_ind (fun (x : Int × List SSeg) => (2 - x.1).toNat) (fun (x : Int × List SSeg) => 0 ≤ x.1 ∧ x.1 ≤ 2 ∧ (x.2.length : Int) = x.1 ∧ ∀ t ∈ x.2, SegSm t) (fun _ r => Q r) ?_ n _ ⟨by show (0 : Int) ≤ 0; omega, by show (0 : Int) ≤ 2; omega, rfl, by simp⟩ (by show ((2 : Int) - 0).toNat < n; omega)
  rintro ⟨p, P⟩ J ⟨h1, h2, h3, h4⟩ ih
  dsimp only at h1 h2 h3 h4
  show Q (spec_l21DrawSegs_L38 n K _ p c P)
  unfold spec_l21DrawSegs_L38 spec_l21DrawSegs_k4
  by_cases hk : p < 2
  · rw [decide_eq_true hk, cond_true]
    refine rows_loop (Q := Q) hn fun l hl hr => ?_
    rw [bd_eq, chk_dec (by rw [app_len]; omega), w64_id (by omega) (by omega)]
    exact ih (p + 1, _) ⟨by show 0 ≤ p + 1; omega, by show p + 1 ≤ 2; omega, by dsimp only; rw [app_len]; omega, mem_snoc h4 ⟨sz_big, by show l.length ≤ 100; omega, hr⟩⟩ (by show (2 - (p + 1)).toNat < (2 - p).toNat; omega)
  · rw [decide_eq_false hk, cond_false]
    exact hK _ (by omega) h4
end Go.Sm
end

section
set_option linter.unusedVariables false
set_option linter.unusedSimpArgs false
namespace Go.Sm
attribute [local irreducible] bd chk ix loopN
theorem list_draw {n : Nat} {c : Sl1Cur} (h : CurOk c) (hn : 1000000000 < n) : ∃ l c', spec_l21DrawSegs n c = some (l, c') ∧ SegsSm l ∧ CurOk c' := by
  obtain ⟨v, c1, e1, hv, h1⟩ := below_ok (n := n) h (m := 6) (by omega)
  unfold spec_l21DrawSegs
  rw [e1, Option.bind_some]
  refine segs_draw (Q := fun r => ∃ l c', r = some (l, c') ∧ SegsSm l ∧ CurOk c') h1 (by dsimp only; omega) hn fun c2 out h2 hl hs => ?_
  obtain ⟨w, c3, e3, hw, h3⟩ := below_ok (n := n) h2 (m := 40) (by omega)
  rw [e3, Option.bind_some]
  dsimp only
  by_cases w0 : w = 0
  · obtain ⟨t, c4, e4, ht, h4⟩ := pickB_ok (n := n) h3 (l := [str [], str [65, 66], str [65, 98, 67], str [65, 66, 67, 68], str [65, 49, 67]]) (by decide)
    rw [decide_eq_true w0, cond_true, e4, Option.bind_some, bd_eq, chk_dec (by rw [app_len]; omega)]
    exact ⟨_, _, rfl, ⟨by rw [app_len]; omega, mem_snoc hs (seg_nil (sz_odd t ht))⟩, h4⟩
  rw [decide_eq_false w0, cond_false]
  by_cases w1 : w = 1
  · obtain ⟨m, c4, e4, hm, h4⟩ := pickM_ok (n := n) h3 (l := [(20 : Int), (21 : Int)]) (by decide)
    have hm2 : 0 ≤ m ∧ m ≤ 21 := by
      rcases List.mem_cons.1 hm with h | h
      · omega
      · have := List.mem_singleton.1 h; omega
    rw [decide_eq_true w1, cond_true, e4, Option.bind_some]
    dsimp only
    rw [chk_dec hm2.1, chk_dec (Int.le_refl m), chk_dec (by omega), bd_eq, chk_dec (by rw [app_len]; omega)]
    refine set_loop (Q := fun r => ∃ l c', r = some (l, c') ∧ SegsSm l ∧ CurOk c') (by rw [app_len]; omega) (by rw [app_len]; omega) (mem_snoc hs ⟨sz_big, by show (List.replicate m.toNat ([] : List ByteArray)).length ≤ 100; rw [List.length_replicate]; omega, fun r hr => ?_⟩) hn fun l hl hs => ⟨_, _, rfl, ⟨by omega, hs⟩, h4⟩
    rw [List.eq_of_mem_replicate hr]
    exact ⟨by show (0 : Nat) ≤ 100; omega, fun x hx => by cases hx⟩
  rw [decide_eq_false w1, cond_false]
  by_cases w2 : w = 2
  · obtain ⟨m, c4, e4, hm, h4⟩ := pickM_ok (n := n) h3 (l := [(0 : Int), (10 : Int), (11 : Int)]) (by decide)
    have hm2 : 0 ≤ m ∧ m ≤ 11 := by
      rcases List.mem_cons.1 hm with h | h
      · omega
      · rcases List.mem_cons.1 h with h | h
        · omega
        · have := List.mem_singleton.1 h; omega
    rw [decide_eq_true w2, cond_true, e4, Option.bind_some]
    dsimp only
    rw [chk_dec hm2.1, chk_dec (Int.le_refl m), chk_dec (by omega), bd_eq, chk_dec (by rw [app_len]; omega)]
    refine ⟨_, _, rfl, ⟨by rw [app_len]; omega, mem_snoc hs ⟨sz_big, by show (1 : Nat) ≤ 100; omega, fun r hr => ?_⟩⟩, h4⟩
    rw [List.mem_singleton.1 hr]
    refine ⟨by rw [List.length_replicate]; omega, fun x hx => ?_⟩
    rw [List.eq_of_mem_replicate hx]
    exact sz_nilT
  rw [decide_eq_false w2, cond_false]
  by_cases w3 : w = 3
  · obtain ⟨m, c4, e4, hm, h4⟩ := pickM_ok (n := n) h3 (l := [(31 : Int), (32 : Int), (126 : Int), (127 : Int), (200 : Int)]) (by decide)
    rw [decide_eq_true w3, cond_true, e4, Option.bind_some, bd_eq, chk_dec (by rw [app_len]; omega)]
    refine ⟨_, _, rfl, ⟨by rw [app_len]; omega, mem_snoc hs ⟨sz_oddT, by show (1 : Nat) ≤ 100; omega, fun r hr => ?_⟩⟩, h4⟩
    rw [List.mem_singleton.1 hr]
    refine ⟨by show (1 : Nat) ≤ 100; omega, fun x hx => ?_⟩
    rw [List.mem_singleton.1 hx]
    show (bstr _).size ≤ 100
    rw [bstr_size]
    show (1 : Nat) ≤ 100
    omega
  rw [decide_eq_false w3, cond_false]
  by_cases w4 : w = 4
  · obtain ⟨m, c4, e4, hm, h4⟩ := below_ok (n := n) h3 (m := 2) (by omega)
    rw [decide_eq_true w4, cond_true, e4, Option.bind_some, bd_eq]
    exact tic_loop (Q := fun r => ∃ l c', r = some (l, c') ∧ SegsSm l ∧ CurOk c') (by dsimp only; rw [w64_id (by omega) (by omega)]; omega) hn fun l hl hs => ⟨_, _, rfl, ⟨by omega, hs⟩, h4⟩
  rw [decide_eq_false w4, cond_false]
  by_cases w5 : w = 5
  · rw [decide_eq_true w5, cond_true]
    refine big_loop (Q := fun r => ∃ l c', r = some (l, c') ∧ SegsSm l ∧ CurOk c') hn fun l hl hs => ?_
    obtain ⟨m, c4, e4, hm, h4⟩ := below_ok (n := n) h3 (m := 3) (by omega)
    rw [e4, Option.bind_some]
    dsimp only
    rw [bd_eq, w64_id (show -9223372036854775808 ≤ 19 + m by omega) (by omega), chk_dec (by omega), chk_dec (by omega), bd_eq, chk_dec (by rw [app_len]; omega)]
    refine ⟨_, _, rfl, ⟨by rw [app_len]; omega, mem_snoc hs ⟨sz_endT, by show (2 : Nat) ≤ 100; omega, fun r hr => ?_⟩⟩, h4⟩
    have hx : ∀ u : ByteArray, u.size ≤ 100 → RowSm [u] := fun u hu => ⟨by show (1 : Nat) ≤ 100; omega, fun x hx => by rw [List.mem_singleton.1 hx]; exact hu⟩
    rcases List.mem_cons.1 hr with h | h
    · rw [h]
      refine hx _ ?_
      have := sz_23
      rw [ByteArray.size_extract]; omega
    · rw [List.mem_singleton.1 h]
      exact hx _ sz_nilT
  rw [decide_eq_false w5, cond_false]
  exact ⟨_, _, rfl, ⟨by omega, hs⟩, h3⟩
theorem write_draw {n : Nat} {code : List Int} (hc : code.length ≤ 1048576) (hn : 1000000000 < n) : ∃ l, spec_DrawWriteSegs n code = some l ∧ SegsSm l := by
  obtain ⟨c, e, h⟩ := new_ok (n := n) code hc hn
  obtain ⟨l, c', e2, h2, h3⟩ := list_draw (n := n) h hn
  unfold spec_DrawWriteSegs
  rw [e, Option.bind_some, e2]
  exact ⟨_, rfl, h2⟩
/-- a number below a bound of any size -/
theorem belowB_ok {n : Nat} {c : Sl1Cur} (h : CurOk c) {m : Int} (hm : 1 ≤ m ∧ m ≤ 1000000000) : ∃ v c', spec_l1Below n c m = some (v, c') ∧ (0 ≤ v ∧ v < m) ∧ CurOk c' := by
  by_cases hb : m ≤ 256
  · exact below_ok h ⟨hm.1, hb⟩
  obtain ⟨v1, c1, e1, b1, h1⟩ := byte_ok (n := n) h
  obtain ⟨v2, c2, e2, b2, h2⟩ := byte_ok (n := n) h1
  obtain ⟨v3, c3, e3, b3, h3⟩ := byte_ok (n := n) h2
  obtain ⟨v4, c4, e4, b4, h4⟩ := byte_ok (n := n) h3
  unfold spec_l1Below spec_l1Below_k0
  rw [decide_eq_false (show ¬ m ≤ 0 by omega), cond_false, decide_eq_false hb, cond_false, e1, Option.bind_some]
  dsimp only
  rw [e2, Option.bind_some]
  dsimp only
  rw [e3, Option.bind_some]
  dsimp only
  rw [e4, Option.bind_some]
  dsimp only
  simp only [bd_eq]
  rw [decide_eq_false (show ¬ m = 0 by omega), cond_false, w64_id (x := v1 * 16777216) (by omega) (by omega), w64_id (x := v2 * 65536) (by omega) (by omega), w64_id (x := v3 * 256) (by omega) (by omega), w64_id (x := v1 * 16777216 + v2 * 65536) (by omega) (by omega), w64_id (x := v1 * 16777216 + v2 * 65536 + v3 * 256) (by omega) (by omega), w64_id (x := v1 * 16777216 + v2 * 65536 + v3 * 256 + v4) (by omega) (by omega)]
  exact ⟨_, _, rfl, ⟨Int.tmod_nonneg _ (by omega), Int.tmod_lt_of_pos _ (by omega)⟩, h4⟩
end Go.Sm
end

section
set_option linter.unusedVariables false
set_option linter.unusedSimpArgs false
namespace Go.Sm
attribute [local irreducible] bd chk ix loopN
theorem sz_q1 : ∀ s ∈ [str [120, 39], str [63, 43, 39], str [39], str [63], str [63, 120]], s.size ≤ 100 := by decide +kernel
theorem sz_q2 : ∀ s ∈ [str [58], str [39], str [43, 120, 39]], s.size ≤ 100 := by decide +kernel
theorem sz_q3 : ∀ s ∈ [str [43], str [39]], s.size ≤ 100 := by decide +kernel
theorem sz_q4 : ∀ s ∈ [str [63], str [39], str [58], str [43]], s.size ≤ 100 := by decide +kernel
theorem sz_q5 : ∀ s ∈ [str [43], str [58], str [39], str [63], str [65], str [97], (bstr [(31 : Int)]), (bstr [(200 : Int)])], s.size = 1 := by decide +kernel
theorem sz_p1 : (strb (str [65, 66, 67, 43, 48, 49, 50, 51, 52, 53, 54, 55, 56, 57, 48, 49, 50, 51, 52, 53, 54, 55, 56, 57, 48, 49, 50, 51, 52, 53, 54, 55, 56, 57, 48, 49, 50, 51, 52, 53, 54, 55, 56, 57])).length ≤ 100 := by decide +kernel
theorem sz_p2 : (strb (str [65, 66, 67, 43, 49, 58, 50, 58, 51, 58, 52, 58, 53, 58, 54, 58, 55, 58, 56, 58, 57, 58, 49, 48])).length ≤ 100 := by decide +kernel
theorem sz_p3 : (strb (str [65, 66, 67, 43, 43, 43, 43, 43, 43, 43, 43, 43, 43, 43, 43, 43, 43, 43, 43, 43, 43, 43, 43])).length ≤ 100 := by decide +kernel
theorem strb_length (s : ByteArray) : (strb s).length = s.size := by
  unfold strb
  simp
theorem le_big {a b : Nat} (ha : a ≤ 1000000000) (hb : b ≤ 100) : (a + b) * 1 ≤ 140737488355328 := by omega
theorem le_big2 {a b c : Nat} (ha : a ≤ 1000000000) (hb : b ≤ 100) (hc : c ≤ 100) : (a + b + c) * 1 ≤ 140737488355328 := by omega
theorem pickZ_ok {n : Nat} {c : Sl1Cur} (h : CurOk c) {l : List ByteArray} (hl : 1 ≤ l.length ∧ l.length ≤ 256) (hs : ∀ s ∈ l, s.size ≤ 100) : ∃ v c', spec_l1Pick n c l = some (v, c') ∧ v.size ≤ 100 ∧ CurOk c' := by
  obtain ⟨v, c', e, hv, hc⟩ := pickB_ok (n := n) h hl
  exact ⟨v, c', e, hs v hv, hc⟩
theorem k0_draw {n : Nat} {c : Sl1Cur} {u : List Int} (h : CurOk c) (hu : u.length ≤ 1000000000) : ∃ t, spec_DrawReadSegs_k0 n c u = some t := by
  unfold spec_DrawReadSegs_k0
  obtain ⟨w, c3, e3, hw, h3⟩ := below_ok (n := n) h (m := 40) (by omega)
  rw [e3, Option.bind_some]
  dsimp only
  by_cases w0 : w = 0
  · obtain ⟨v, c4, e4, hv, h4⟩ := pickZ_ok (n := n) h3 (by decide) sz_q1
    rw [decide_eq_true w0, cond_true, bd_eq, chk_dec (by rw [List.length_append]; exact le_big hu sz_p1), e4, Option.bind_some, chk_dec (by rw [List.length_append, List.length_append, strb_length v]; exact le_big2 hu sz_p1 hv)]
    exact ⟨_, rfl⟩
  rw [decide_eq_false w0, cond_false]
  by_cases w1 : w = 1
  · obtain ⟨m, c4, e4, hm, h4⟩ := below_ok (n := n) h3 (m := 2) (by omega)
    rw [decide_eq_true w1, cond_true, e4, Option.bind_some]
    dsimp only
    rw [bd_eq, w64_id (show -9223372036854775808 ≤ 2000 + m by omega) (by omega), chk_dec (by omega), chk_dec (Int.le_refl _), chk_dec (by omega)]
    exact ⟨_, rfl⟩
  rw [decide_eq_false w1, cond_false]
  by_cases w2 : w = 2
  · obtain ⟨v, c4, e4, hv, h4⟩ := pickZ_ok (n := n) h3 (by decide) sz_q2
    rw [decide_eq_true w2, cond_true, bd_eq, chk_dec (by rw [List.length_append]; exact le_big hu sz_p2), e4, Option.bind_some, chk_dec (by rw [List.length_append, List.length_append, strb_length v]; exact le_big2 hu sz_p2 hv)]
    exact ⟨_, rfl⟩
  rw [decide_eq_false w2, cond_false]
  by_cases w3 : w = 3
  · obtain ⟨v, c4, e4, hv, h4⟩ := pickZ_ok (n := n) h3 (by decide) sz_q3
    rw [decide_eq_true w3, cond_true, bd_eq, chk_dec (by rw [List.length_append]; exact le_big hu sz_p3), e4, Option.bind_some, chk_dec (by rw [List.length_append, List.length_append, strb_length v]; exact le_big2 hu sz_p3 hv)]
    exact ⟨_, rfl⟩
  rw [decide_eq_false w3, cond_false]
  exact ⟨_, rfl⟩
theorem k2_eq (n : Nat) (c : Sl1Cur) (u : List Int) : spec_DrawReadSegs_k2 n c u = spec_DrawReadSegs_k0 n c u := rfl
theorem k1_eq {n b : Nat} {c : Sl1Cur} {u : List Int} (hb : b ≤ u.length) : spec_DrawReadSegs_k1 n b c u = spec_DrawReadSegs_k0 n c ((u.drop 0).take b) := by
  have h : 0 + b ≤ u.length := by omega
  unfold spec_DrawReadSegs_k1 spec_DrawReadSegs_k0
  simp only [chk_dec h]
theorem read_draw {n : Nat} {code : List Int} (hc : code.length ≤ 1048576) (hn : 1000000000 < n) : ∃ t, spec_DrawReadSegs n code = some t := by
  obtain ⟨c, e, h⟩ := new_ok (n := n) code hc hn
  obtain ⟨l, c', e2, h2, h3⟩ := list_draw (n := n) h hn
  unfold spec_DrawReadSegs
  rw [e, Option.bind_some, e2, Option.bind_some, write_spec h2 hn, Option.bind_some]
  have hlen : (ints (wr l)).length ≤ 201100000 := by rw [ints_len]; exact wr_sm h2
  revert hlen
  generalize ints (wr l) = u
  intro hlen
  by_cases h0 : ((u.length : Int) > 0)
  case neg => rw [decide_eq_false h0, cond_false]; exact k0_draw h3 (by omega)
  obtain ⟨a, c4, e4, ha, h4⟩ := belowB_ok (n := n) h3 (m := (u.length : Int)) (by omega)
  obtain ⟨w, c5, e5, hw, h5⟩ := below_ok (n := n) h4 (m := 6) (by omega)
  rw [decide_eq_true h0, cond_true, e4, Option.bind_some]
  dsimp only
  rw [e5, Option.bind_some]
  dsimp only
  by_cases w0 : w = 0
  · obtain ⟨v, c6, e6, hv, h6⟩ := pickB_ok (n := n) h5 (l := [str [43], str [58], str [39], str [63], str [65], str [97], (bstr [(31 : Int)]), (bstr [(200 : Int)])]) (by decide)
    have hsz := sz_q5 v hv
    rw [decide_eq_true w0, cond_true, e6, Option.bind_some]
    dsimp only
    rw [ix_of (by omega) (by omega), ix_of ha.1 ha.2, chk_dec (by omega), bd_eq]
    exact k0_draw h6 (by rw [List.length_set]; omega)
  rw [decide_eq_false w0, cond_false]
  by_cases w1 : w = 1
  · rw [decide_eq_true w1, cond_true, chk_dec ha.1, chk_dec (by omega), k1_eq (by omega)]
    exact k0_draw h5 (by rw [List.length_take, List.length_drop]; omega)
  rw [decide_eq_false w1, cond_false]
  by_cases w2 : w = 2
  · obtain ⟨v, c6, e6, hv, h6⟩ := pickZ_ok (n := n) h5 (by decide) sz_q4
    have hd : ((u.drop 0).take (a.toNat - 0)).length ≤ u.length := by rw [List.length_take, List.length_drop]; omega
    have hd2 : ((u.drop a.toNat).take (u.length - a.toNat)).length ≤ u.length := by rw [List.length_take, List.length_drop]; omega
    rw [decide_eq_true w2, cond_true, chk_dec ha.1, chk_dec (by omega), chk_dec (by omega), bd_eq, chk_dec (by omega), e6, Option.bind_some, chk_dec (by rw [List.length_append, strb_length v]; omega), chk_dec ha.1, chk_dec (by omega), chk_dec (by omega), bd_eq, chk_dec (by rw [List.length_append, List.length_append, strb_length v]; omega), k2_eq]
    exact k0_draw h6 (by rw [List.length_append, List.length_append, strb_length v]; omega)
  rw [decide_eq_false w2, cond_false]
  exact k0_draw h5 (by omega)
end Go.Sm
end

section
set_option linter.unusedVariables false
set_option linter.unusedSimpArgs false
namespace Go.Sm
attribute [local irreducible] bd chk ix loopN
/-! ### The law -/
theorem all_mem {α : Type} {l : List α} {d : α} {p : α → Bool} : ((List.range l.length).all fun k => p (l.getD k d)) = true ↔ ∀ x ∈ l, p x = true := by
  rw [List.all_eq_true]
  constructor
  · intro h x hx
    obtain ⟨i, hi, rfl⟩ := List.mem_iff_getElem.1 hx
    have := h i (List.mem_range.2 hi)
    rwa [getD_eq hi] at this
  · intro h k hk
    exact h _ (getD_mem (List.mem_range.1 hk))
theorem U8_get {t : ByteArray} {j : Nat} (hj : j < t.size) : U8 t j = t.data.toList[j]'(by simp; exact hj) := by
  unfold U8
  rw [Array.getD_eq_getD_getElem?, Array.getElem?_eq_getElem hj]
  simp
theorem txt_iff (s : ByteArray) : txtB s = true ↔ txtR s := by
  unfold txtB txtR
  rw [Bool.and_eq_true, decide_eq_true_iff, List.all_eq_true]
  constructor
  · rintro ⟨h1, h2⟩
    refine ⟨h1, fun x hx => ?_⟩
    obtain ⟨i, hi, rfl⟩ := List.mem_iff_getElem.1 hx
    have hi2 : i < s.size := by simpa using hi
    have := of_decide_eq_true (h2 i (List.mem_range.2 hi2))
    rw [byteAt_U, U8_get hi2] at this
    omega
  · rintro ⟨h1, h2⟩
    refine ⟨h1, fun k hk => decide_eq_true ?_⟩
    have hk2 := List.mem_range.1 hk
    rw [byteAt_U, U8_get hk2]
    have := h2 _ (List.getElem_mem (show k < s.data.toList.length by simp; exact hk2))
    omega
theorem row_iff (r : List ByteArray) : rowB r = true ↔ rowR r := by
  unfold rowB rowR
  rw [Bool.and_eq_true, decide_eq_true_iff, all_mem (p := txtB)]
  constructor
  · rintro ⟨⟨h1, h2⟩, h3⟩
    exact ⟨by omega, by omega, fun s hs => (txt_iff s).1 (h3 s hs)⟩
  · rintro ⟨h1, h2, h3⟩
    exact ⟨⟨by omega, by omega⟩, fun s hs => (txt_iff s).2 (h3 s hs)⟩
theorem seg_iff (s : SSeg) : segB s = true ↔ segR s := by
  unfold segB segR partsR capsB
  rw [Bool.and_eq_true, Bool.and_eq_true, Bool.and_eq_true, decide_eq_true_iff, decide_eq_true_iff, Bool.and_eq_true, Bool.and_eq_true, all_mem (p := rowB)]
  constructor
  · rintro ⟨h1, h2, ⟨h3, h4, h5⟩, h6⟩
    refine ⟨h1, fun i hi => ?_, h2, fun r hr => (row_iff r).1 (h6 r hr)⟩
    rcases (by omega : i = 0 ∨ i = 1 ∨ i = 2) with rfl | rfl | rfl
    · exact h3
    · exact h4
    · exact h5
  · rintro ⟨h1, h2, h3, h4⟩
    exact ⟨h1, h3, ⟨h2 0 (by omega), h2 1 (by omega), h2 2 (by omega)⟩, fun r hr => (row_iff r).2 (h4 r hr)⟩
theorem segs_iff (l : List SSeg) : segsB l = true ↔ segsR l ∧ (wr l).length ≤ 2000 := by
  unfold segsB segsR
  rw [Bool.and_eq_true, Bool.and_eq_true, decide_eq_true_iff, decide_eq_true_iff, all_mem (p := segB)]
  constructor
  · rintro ⟨h1, h2, h3⟩
    exact ⟨⟨h1, fun s hs => (seg_iff s).1 (h2 s hs)⟩, h3⟩
  · rintro ⟨⟨h1, h2⟩, h3⟩
    exact ⟨h1, fun s hs => (seg_iff s).2 (h2 s hs), h3⟩
theorem segsR_sm {l : List SSeg} (h : segsR l) : SegsSm l := by
  obtain ⟨h1, h2⟩ := h
  refine ⟨by omega, fun s hs => ?_⟩
  obtain ⟨g1, g2, g3, g4⟩ := h2 s hs
  refine ⟨by omega, by omega, fun r hr => ?_⟩
  obtain ⟨f1, f2, f3⟩ := g4 r hr
  refine ⟨by omega, fun t ht => ?_⟩
  have := (f3 t ht).1
  show t.size ≤ 100
  omega
theorem loop_go {R : Type} {b : Int → (Int → Option R) → Option R} {len : Nat} {yes : Option R} (hlen : len ≤ 9223372036854775807)
    (hstep : ∀ (k : Nat) (J : Int → Option R), k < len → b (k : Int) J = J ((k + 1 : Nat) : Int)) (hfin : ∀ J, b (len : Int) J = yes) {n : Nat} (hn : len < n) : loopN b n (0 : Int) = yes := by
  rw [loop_all (p := fun _ => true) (no := none) (yes := yes) hlen (fun k J hk _ => by rw [hstep k J hk]; rfl) (fun J _ => hfin J) hn, List.all_eq_true.2 (fun _ _ => rfl)]; rfl
theorem same_texts {R : Type} {n : Nat} {yes : Option R} {kxr : Bool → Option R} {code : List Int} {l : List SSeg} {i k : Nat} (hl : SegsSm l) (hi : i < l.length) (hk : k < (l.getD i dSSeg).Parts.length) (hn : 1000000000 < n) :
    loopN (fun (x : Int) J' => laws_FnSegments_L22 n yes kxr J' code l l (i : Int) (k : Int) x) n (0 : Int) = yes := by
  have hr := (hl.2 _ (getD_mem (d := dSSeg) hi)).2.2 _ (getD_mem (d := ([] : List ByteArray)) hk)
  have hrl := hr.1
  refine loop_go (len := ((l.getD i dSSeg).Parts.getD k []).length) (by omega) (fun j J hj => ?_) (fun J => ?_) (by omega)
  · unfold laws_FnSegments_L22 laws_FnSegments_k0
    rw [ix_nat hi, bd_eq, Int.toNat_natCast, ix_nat hk, Int.toNat_natCast, decide_eq_true (by omega), cond_true, ix_nat hi, bd_eq, ix_nat hk, ix_nat hj, ix_nat hi, bd_eq, ix_nat hk, ix_nat hj, decide_eq_true rfl, Bool.not_true, cond_false, w64_succ (by omega)]
  · unfold laws_FnSegments_L22
    rw [ix_nat hi, bd_eq, Int.toNat_natCast, ix_nat hk, Int.toNat_natCast, decide_eq_false (by omega), cond_false]
theorem same_rows {R : Type} {n : Nat} {yes : Option R} {kxr : Bool → Option R} {code : List Int} {l : List SSeg} {i : Nat} (hl : SegsSm l) (hi : i < l.length) (hn : 1000000000 < n) :
    loopN (fun (x : Int) J' => laws_FnSegments_L17 n yes kxr J' code l l (i : Int) x) n (0 : Int) = yes := by
  have hs := (hl.2 _ (getD_mem (d := dSSeg) hi)).2.1
  refine loop_go (len := (l.getD i dSSeg).Parts.length) (by omega) (fun k J hk => ?_) (fun J => ?_) (by omega)
  · unfold laws_FnSegments_L17 laws_FnSegments_k1
    rw [ix_nat hi, bd_eq, Int.toNat_natCast, decide_eq_true (by omega), cond_true, ix_nat hi, bd_eq, Int.toNat_natCast, ix_nat hk, ix_nat hi, bd_eq, ix_nat hk, decide_eq_true rfl, Bool.not_true, cond_false, same_texts hl hi hk hn, w64_succ (by omega)]
  · unfold laws_FnSegments_L17
    rw [ix_nat hi, bd_eq, Int.toNat_natCast, decide_eq_false (by omega), cond_false]
theorem same_list {R : Type} {n : Nat} {yes : Option R} {kxr : Bool → Option R} {code : List Int} {l : List SSeg} (hl : SegsSm l) (hn : 1000000000 < n) :
    loopN (fun (x : Int) J' => laws_FnSegments_L12 n yes kxr J' code l l x) n (0 : Int) = yes := by
  have hs := hl.1
  refine loop_go (len := l.length) (by omega) (fun i J hi => ?_) (fun J => ?_) (by omega)
  · unfold laws_FnSegments_L12 laws_FnSegments_k2
    rw [decide_eq_true (by omega), cond_true, ix_nat hi, bd_eq, ix_nat hi, bd_eq, Int.toNat_natCast, decide_eq_true rfl, Bool.not_true, cond_false, ix_nat hi, bd_eq, ix_nat hi, bd_eq, decide_eq_true rfl, Bool.not_true, cond_false, same_rows hl hi hn, w64_succ (by omega)]
  · unfold laws_FnSegments_L12
    rw [decide_eq_false (by omega), cond_false]
theorem last_true {n : Nat} {code : List Int} (hc : code.length ≤ 1048576) (hn : 1000000000 < n) : laws_FnSegments_k3 n code = some true := by
  obtain ⟨t, ht⟩ := read_draw (n := n) hc hn
  unfold laws_FnSegments_k3
  rw [ht, Option.bind_some]
  rcases read_any (n := n) t hn with ⟨l, h1, h2, h3, h4⟩ | ⟨c, p, h1, h2, h3, h4⟩
  · have hB : segsB l = true := (segs_iff l).2 ⟨h2, h3⟩
    rw [h1, Option.bind_some, decide_eq_true rfl, cond_true, write_impl (segsR_sm h2) hn, Option.bind_some, hB]
    show some (decide ((⟨(wr l).toArray⟩ : ByteArray) = t)) = some true
    rw [h4, decide_eq_true rfl]
  · rw [h1, Option.bind_some]
    dsimp only
    rw [decide_eq_false h2, cond_false, decide_eq_true (show (([] : List SSeg).length : Int) = 0 from rfl), cond_true, decide_eq_true (show p ≥ 0 from h3), cond_true, decide_eq_true h4]
theorem laws_FnSegments_true (code0 : List Int) (h0 : code0.length ≤ 9223372036854775807 ∧ ∀ y ∈ code0, rng 0 255 y) : ∃ n, laws_FnSegments n code0 = some true := by
  refine ⟨1000000001, ?_⟩
  generalize hN : (1000000001 : Nat) = n
  have hn : 1000000000 < n := by omega
  unfold laws_FnSegments laws_big
  rw [Option.bind_some]
  by_cases hb : (code0.length : Int) > 1048576
  · rw [decide_eq_true hb]; rfl
  rw [decide_eq_false hb, cond_false]
  have hc : code0.length ≤ 1048576 := by omega
  obtain ⟨l, hd, hl⟩ := write_draw (n := n) hc hn
  rw [hd, Option.bind_some, write_impl hl hn, Option.bind_some, segs_spec hl hn, Option.bind_some, segs_impl hl hn]
  have hlast := last_true (n := n) hc hn
  cases hB : segsB l with
  | false =>
    simp only [cond_false, BEq.rfl, Bool.not_true, Option.bind_some]
    unfold laws_FnSegments_k4
    rw [cond_false, hlast]
  | true =>
    simp only [cond_true, cond_false, BEq.rfl, Bool.not_true, Option.bind_some]
    obtain ⟨g1, g2⟩ := (segs_iff l).1 hB
    unfold laws_FnSegments_k4
    rw [cond_true, read_written g1 g2 hn, Option.bind_some]
    dsimp only
    rw [decide_eq_true rfl, Bool.not_true, cond_false, decide_eq_true rfl, Bool.not_true, cond_false, same_list hl hn, hlast]
    rfl
end Go.Sm
end
