import Derived.Test.YtakllmgiobpmgaaEngA
/- The functions as plain functions over data, and that the law answers true for all arguments. ReadSegs: of all texts the written-out way and the built one read the same segments, or stop at the same place for the same reason. -/
section
set_option linter.unusedSimpArgs false
set_option linter.deprecated false
set_option linter.unusedSectionVars false
set_option linter.unusedVariables false
namespace Go.Sm
structure SSeg where
  Tag : ByteArray
  Parts : List (List ByteArray)
def dSSeg : SSeg := ⟨str [], []⟩
def spec_l1In (n : Nat) (x0 : Int) (a1 : Int) (b2 : Int) : Option Bool :=
  (bif (decide (x0 ≥ a1)) then some ((decide (x0 ≤ b2))) else some (false))
def spec_l21Head_L4 {R : Type} (n : Nat) (kx0 : Option R) (kxr : Bool → Option R) (J : Int → Option R) (text1 : ByteArray) (at2 : Int) (i3 : Int) : Option R :=
  (bif (decide (i3 < (w64 (at2 + (3 : Int))))) then ix i3 text1.size ((spec_l1In n (w64 (byteAt text1 i3.toNat)) (65 : Int) (90 : Int)).bind fun r7 => (bif (!r7) then kxr false else J (w64 (i3 + (1 : Int))))) else kx0)
def spec_l21Head_k0 (n : Nat)  (text0 : ByteArray) (at1 : Int) : Option Bool :=
  loopN (fun (x : Int) J' => spec_l21Head_L4 n (ix (w64 (at1 + (3 : Int))) text0.size ((bif (decide ((byteAt text0 ((w64 (at1 + (3 : Int))).toNat)) = (43 : Int))) then some (true) else ix (w64 (at1 + (3 : Int))) text0.size (some ((decide ((byteAt text0 ((w64 (at1 + (3 : Int))).toNat)) = (39 : Int)))))))) (fun t10 => some (t10)) J' text0 at1 x) n (at1)
def spec_l21Head (n : Nat) (text0 : ByteArray) (at1 : Int) : Option Bool :=
  (bif (decide ((w64 (at1 + (3 : Int))) ≥ (text0.size : Int))) then some (false) else spec_l21Head_k0 n  text0 at1)
def spec_l21Mark (n : Nat) (b0 : Int) : Option Bool :=
  (bif (decide (b0 = (43 : Int))) then some (true) else (bif (decide (b0 = (58 : Int))) then some (true) else (bif (decide (b0 = (39 : Int))) then some (true) else some ((decide (b0 = (63 : Int)))))))
def spec_ReadSegs_k0 {R : Type} (n : Nat) (kx2 : Int → Bool → List (List ByteArray) → Option R) (kxr : Int → Int → List SSeg → Option R) (J : Int → Bool → List (List ByteArray) → Option R) (text11 : ByteArray) (at36 : Int) (ended37 : Bool) (n38 : Int) (out14 : List SSeg) (s15 : ByteArray) (c39 : List (List ByteArray)) : Option R :=
  ix n38 c39.length (chk (decide (n38.toNat < c39.length)) (chk (decide (n38.toNat < c39.length)) (chk (decide (((c39.getD n38.toNat []) ++ [str []]).length * 16 ≤ 140737488355328)) (ix n38 c39.length (chk (decide (n38.toNat < c39.length)) (chk (decide (n38.toNat = n38.toNat)) ((bd (c39.set n38.toNat ((c39.getD n38.toNat []) ++ [str []])) fun (l40 : List (List ByteArray)) => J (w64 (at36 + (1 : Int))) ended37 l40))))))))
def spec_ReadSegs_k1 {R : Type} (n : Nat) (kx2 : Int → Bool → List (List ByteArray) → Option R) (kxr : Int → Int → List SSeg → Option R) (J : Int → Bool → List (List ByteArray) → Option R) (text11 : ByteArray) (at75 : Int) (ended76 : Bool) (b77 : Int) (n78 : Int) (k79 : Int) (out14 : List SSeg) (s15 : ByteArray) (c80 : List (List ByteArray)) : Option R :=
  ix n78 c80.length (chk (decide (n78.toNat < c80.length)) (ix n78 c80.length (chk (decide (n78.toNat < c80.length)) (chk (decide (n78.toNat < c80.length)) (ix k79 ((c80.getD n78.toNat []).length) (chk (decide (n78.toNat < c80.length)) (chk (decide (k79.toNat < (c80.getD n78.toNat []).length)) (chk (decide (((((c80.getD n78.toNat []).getD k79.toNat (str [])).size + (bstr [b77]).size : Nat) : Int) ≤ 9223372036854775807)) ((bd (((c80.getD n78.toNat []).getD k79.toNat (str [])) ++ (bstr [b77])) fun (s81 : ByteArray) => chk (decide (n78.toNat < c80.length)) (ix k79 ((c80.getD n78.toNat []).length) (chk (decide (n78.toNat < c80.length)) (chk (decide (k79.toNat < (c80.getD n78.toNat []).length)) ((bd (c80.set n78.toNat ((c80.getD n78.toNat []).set k79.toNat s81)) fun (l82 : List (List ByteArray)) => J (w64 (at75 + (1 : Int))) ended76 l82)))))))))))))))
def spec_ReadSegs_k2 {R : Type} (n : Nat) (kx2 : Int → Bool → List (List ByteArray) → Option R) (kxr : Int → Int → List SSeg → Option R) (J : Int → Bool → List (List ByteArray) → Option R) (text11 : ByteArray) (at68 : Int) (ended69 : Bool) (b70 : Int) (n71 : Int) (here72 : Int) (out14 : List SSeg) (s15 : ByteArray) (c73 : List (List ByteArray)) : Option R :=
  ix n71 c73.length (chk (decide (n71.toNat < c73.length)) (chk (decide (n71.toNat < c73.length)) ((bd (w64 (((c73.getD n71.toNat []).length : Int) - (1 : Int))) fun (v74 : Int) => ix n71 c73.length (chk (decide (n71.toNat < c73.length)) (chk (decide (n71.toNat < c73.length)) (ix v74 ((c73.getD n71.toNat []).length) (chk (decide (n71.toNat < c73.length)) (chk (decide (v74.toNat < (c73.getD n71.toNat []).length)) ((bif (decide ((((c73.getD n71.toNat []).getD v74.toNat (str [])).size : Int) = (40 : Int))) then kxr (4 : Int) here72 [] else spec_ReadSegs_k1 n kx2 kxr J text11 at68 ended69 b70 n71 v74 out14 s15 c73)))))))))))
def spec_ReadSegs_k3 {R : Type} (n : Nat) (kx2 : Int → Bool → List (List ByteArray) → Option R) (kxr : Int → Int → List SSeg → Option R) (J : Int → Bool → List (List ByteArray) → Option R) (text11 : ByteArray) (at56 : Int) (ended57 : Bool) (n58 : Int) (here59 : Int) (out14 : List SSeg) (s15 : ByteArray) (c60 : List (List ByteArray)) : Option R :=
  ix (w64 (at56 + (1 : Int))) text11.size ((spec_l1In n (w64 (byteAt text11 ((w64 (at56 + (1 : Int))).toNat))) (32 : Int) (126 : Int)).bind fun r86 => (bif (!r86) then kxr (3 : Int) (w64 (at56 + (1 : Int))) [] else spec_ReadSegs_k2 n kx2 kxr J text11 (w64 (at56 + (1 : Int))) ended57 (byteAt text11 ((w64 (at56 + (1 : Int))).toNat)) n58 here59 out14 s15 c60))
def spec_ReadSegs_k4 {R : Type} (n : Nat) (kx2 : Int → Bool → List (List ByteArray) → Option R) (kxr : Int → Int → List SSeg → Option R) (J : Int → Bool → List (List ByteArray) → Option R) (text11 : ByteArray) (at21 : Int) (ended22 : Bool) (out14 : List SSeg) (s15 : ByteArray) (c23 : List (List ByteArray)) : Option R :=
  ix at21 text11.size ((bd (w64 ((c23.length : Int) - (1 : Int))) fun (v24 : Int) => (bif (decide ((byteAt text11 at21.toNat) = (39 : Int))) then J (w64 (at21 + (1 : Int))) true c23 else (bif (decide ((byteAt text11 at21.toNat) = (43 : Int))) then (bif (decide (v24 = (19 : Int))) then kxr (4 : Int) at21 [] else chk (decide ((c23 ++ [[str []]]).length * 24 ≤ 140737488355328)) (J (w64 (at21 + (1 : Int))) ended22 (c23 ++ [[str []]]))) else (bif (decide ((byteAt text11 at21.toNat) = (58 : Int))) then ix v24 c23.length (chk (decide (v24.toNat < c23.length)) (chk (decide (v24.toNat < c23.length)) ((bif (decide (((c23.getD v24.toNat []).length : Int) = (10 : Int))) then kxr (4 : Int) at21 [] else spec_ReadSegs_k0 n kx2 kxr J text11 at21 ended22 v24 out14 s15 c23)))) else (bif (decide ((byteAt text11 at21.toNat) = (63 : Int))) then (bif (decide ((w64 (at21 + (1 : Int))) ≥ (text11.size : Int))) then kxr (3 : Int) at21 [] else ix (w64 (at21 + (1 : Int))) text11.size ((spec_l21Mark n (byteAt text11 ((w64 (at21 + (1 : Int))).toNat))).bind fun r49 => (bif (!r49) then kxr (3 : Int) at21 [] else spec_ReadSegs_k3 n kx2 kxr J text11 at21 ended22 v24 at21 out14 s15 c23))) else (spec_l1In n (w64 (byteAt text11 at21.toNat)) (32 : Int) (126 : Int)).bind fun r104 => (bif (!r104) then kxr (3 : Int) at21 [] else spec_ReadSegs_k2 n kx2 kxr J text11 at21 ended22 (byteAt text11 at21.toNat) v24 at21 out14 s15 c23)))))))
def spec_ReadSegs_L13 {R : Type} (n : Nat) (kx2 : Int → Bool → List (List ByteArray) → Option R) (kxr : Int → Int → List SSeg → Option R) (J : Int → Bool → List (List ByteArray) → Option R) (text11 : ByteArray) (at12 : Int) (ended13 : Bool) (out14 : List SSeg) (s15 : ByteArray) (c16 : List (List ByteArray)) : Option R :=
  (bif (decide (at12 < (text11.size : Int))) then (bif (!ended13) then spec_ReadSegs_k4 n kx2 kxr J text11 at12 ended13 out14 s15 c16 else kx2 at12 ended13 c16) else kx2 at12 ended13 c16)
def spec_ReadSegs_k5 {R : Type} (n : Nat) (kx0 : List SSeg → Option R) (kxr : Int → Int → List SSeg → Option R) (J : Int → List SSeg → Option R) (text1 : ByteArray) (at9 : Int) (out10 : List SSeg) : Option R :=
  chk (decide ((0 : Int) ≤ (w64 (at9 + (3 : Int))))) (chk (decide ((w64 (at9 + (3 : Int))) ≤ (text1.size : Int))) (chk (decide ((0 : Int) ≤ at9)) (chk (decide (at9 ≤ (w64 (at9 + (3 : Int))))) (loopN (fun (x : Int × Bool × List (List ByteArray)) J' => spec_ReadSegs_L13 n (fun at117 ended118 c119 => (bif (!ended118) then kxr (5 : Int) (text1.size : Int) [] else (bd (out10 ++ [(⟨(text1.extract at9.toNat ((w64 (at9 + (3 : Int))).toNat)), c119⟩ : SSeg)]) fun (l125 : List SSeg) => chk (decide (l125.length * 40 ≤ 140737488355328)) (J at117 l125)))) (fun t126 t127 t128 => kxr t126 t127 t128) (fun at129 ended130 c131 => J' (at129, ended130, c131)) text1 x.1 x.2.1 out10 (text1.extract at9.toNat ((w64 (at9 + (3 : Int))).toNat)) x.2.2) n ((w64 (at9 + (3 : Int))), false, [])))))
def spec_ReadSegs_L5 {R : Type} (n : Nat) (kx0 : List SSeg → Option R) (kxr : Int → Int → List SSeg → Option R) (J : Int → List SSeg → Option R) (text1 : ByteArray) (at2 : Int) (out3 : List SSeg) : Option R :=
  (bif (decide (at2 < (text1.size : Int))) then (bif (decide ((out3.length : Int) = (60 : Int))) then kxr (4 : Int) at2 [] else (spec_l21Head n text1 at2).bind fun r137 => (bif (!r137) then kxr (2 : Int) at2 [] else spec_ReadSegs_k5 n kx0 kxr J text1 at2 out3)) else kx0 out3)
def spec_ReadSegs (n : Nat) (text0 : ByteArray) : Option (List SSeg × Int × Int) :=
  (bif (decide ((text0.size : Int) > (2000 : Int))) then some ([], (1 : Int), (0 : Int)) else loopN (fun (x : Int × List SSeg) J' => spec_ReadSegs_L5 n (fun out146 => some (out146, (0 : Int), (0 : Int))) (fun t147 t148 t149 => some (t149, t147, t148)) (fun at150 out151 => J' (at150, out151)) text0 x.1 x.2) n ((0 : Int), []))
def impl_capital (n : Nat) (c0 : Int) : Option Bool :=
  (bif (decide (c0 ≥ (65 : Int))) then some ((decide (c0 ≤ (90 : Int)))) else some (false))
def impl_ReadSegs_1 (n : Nat) (a0 : SSeg) (a1 : List Int) : Option (SSeg × List Int) :=
  (bd (w64 ((a0.Parts.length : Int) - (1 : Int))) fun (v1 : Int) => (bif (decide (v1 ≥ (0 : Int))) then ix v1 a0.Parts.length (chk (decide (v1.toNat < a0.Parts.length)) (chk (decide (v1.toNat < a0.Parts.length)) (chk (decide (((a0.Parts.getD v1.toNat []) ++ [(bstr a1)]).length * 16 ≤ 140737488355328)) (ix v1 a0.Parts.length (chk (decide (v1.toNat < a0.Parts.length)) (chk (decide (v1.toNat = v1.toNat)) ((bd (a0.Parts.set v1.toNat ((a0.Parts.getD v1.toNat []) ++ [(bstr a1)])) fun (l2 : List (List ByteArray)) => some ((⟨a0.Tag, l2⟩ : SSeg), []))))))))) else some (a0, a1)))
def impl_plain (n : Nat) (c0 : Int) : Option Bool :=
  (bif (decide (c0 ≥ (32 : Int))) then some ((decide (c0 ≤ (126 : Int)))) else some (false))
def impl_marked (n : Nat) (c0 : Int) : Option Bool :=
  (bif (decide (c0 = (43 : Int))) then some (true) else (bif (decide (c0 = (58 : Int))) then some (true) else (bif (decide (c0 = (39 : Int))) then some (true) else some ((decide (c0 = (63 : Int)))))))
def impl_own_string (n : Nat) (l0 : List ByteArray) : Option (List ByteArray) :=
  chk (decide ((0 : Int) ≤ (l0.length : Int))) (chk (decide ((l0.length : Int) ≤ 9223372036854775807 ∧ (l0.length : Int) * (16 : Int) ≤ 281474976710656)) (chk (decide (l0.length * 16 ≤ 140737488355328)) (some (l0))))
def impl_own_string_f142 (n : Nat) (l0 : List (List ByteArray)) : Option (List (List ByteArray)) :=
  chk (decide ((0 : Int) ≤ (l0.length : Int))) (chk (decide ((l0.length : Int) ≤ 9223372036854775807 ∧ (l0.length : Int) * (24 : Int) ≤ 281474976710656)) (chk (decide (l0.length * 24 ≤ 140737488355328)) (some (l0))))
def impl_own_impl_Seg (n : Nat) (l0 : List SSeg) : Option (List SSeg) :=
  chk (decide ((0 : Int) ≤ (l0.length : Int))) (chk (decide ((l0.length : Int) ≤ 9223372036854775807 ∧ (l0.length : Int) * (40 : Int) ≤ 281474976710656)) (chk (decide (l0.length * 40 ≤ 140737488355328)) (some (l0))))
def impl_ReadSegs_k0 {R : Type} (n : Nat) (kx2 : Int → ByteArray → List (List ByteArray) → Option R) (kxr : Int → Int → List SSeg → Option R) (J : Int → Bool → ByteArray → List (List ByteArray) → List Int → Option R) (text26 : ByteArray) (n27 : Int) (at104 : Int) (ended105 : Bool) (c106 : Int) (list30 : List SSeg) (s107 : ByteArray) (c108 : List (List ByteArray)) (c109 : List Int) : Option R :=
  (bif (decide (c106 = (63 : Int))) then (bd (w64 (at104 + (1 : Int))) fun (v110 : Int) => ix v110 text26.size ((bd (c109 ++ [(byteAt text26 v110.toNat)]) fun (l124 : List Int) => chk (decide (l124.length * 1 ≤ 140737488355328)) (J (w64 (v110 + (1 : Int))) ended105 s107 c108 l124)))) else ix at104 text26.size ((bd (c109 ++ [(byteAt text26 at104.toNat)]) fun (l135 : List Int) => chk (decide (l135.length * 1 ≤ 140737488355328)) ((bd (w64 (at104 + (1 : Int))) fun (v141 : Int) => J v141 ended105 s107 c108 l135)))))
def impl_ReadSegs_k1 {R : Type} (n : Nat) (kx2 : Int → ByteArray → List (List ByteArray) → Option R) (kxr : Int → Int → List SSeg → Option R) (J : Int → Bool → ByteArray → List (List ByteArray) → List Int → Option R) (text26 : ByteArray) (n27 : Int) (at39 : Int) (ended40 : Bool) (list30 : List SSeg) (s41 : ByteArray) (c42 : List (List ByteArray)) (c43 : List Int) : Option R :=
  ix at39 text26.size ((bif (decide ((byteAt text26 at39.toNat) = (39 : Int))) then (impl_ReadSegs_1 n (⟨s41, c42⟩ : SSeg) c43).bind fun r44 => J (w64 (at39 + (1 : Int))) true r44.1.Tag r44.1.Parts r44.2 else (bif (decide ((byteAt text26 at39.toNat) = (43 : Int))) then (impl_ReadSegs_1 n (⟨s41, c42⟩ : SSeg) c43).bind fun r49 => (bif (decide ((r49.1.Parts.length : Int) = (20 : Int))) then kxr (4 : Int) at39 [] else chk (decide ((r49.1.Parts ++ [[]]).length * 24 ≤ 140737488355328)) (J (w64 (at39 + (1 : Int))) ended40 r49.1.Tag (r49.1.Parts ++ [[]]) r49.2)) else (bif (decide ((byteAt text26 at39.toNat) = (58 : Int))) then (bd (w64 ((c42.length : Int) - (1 : Int))) fun (v65 : Int) => ix v65 c42.length (chk (decide (v65.toNat < c42.length)) (chk (decide (v65.toNat < c42.length)) ((bif (decide (((c42.getD v65.toNat []).length : Int) = (9 : Int))) then kxr (4 : Int) at39 [] else (impl_ReadSegs_1 n (⟨s41, c42⟩ : SSeg) c43).bind fun r77 => J (w64 (at39 + (1 : Int))) ended40 r77.1.Tag r77.1.Parts r77.2))))) else (impl_plain n (byteAt text26 at39.toNat)).bind fun r83 => (bif (!r83) then kxr (3 : Int) at39 [] else (bif (decide ((byteAt text26 at39.toNat) = (63 : Int))) then (bif (decide ((w64 (at39 + (1 : Int))) = n27)) then kxr (3 : Int) at39 [] else ix (w64 (at39 + (1 : Int))) text26.size ((impl_marked n (byteAt text26 ((w64 (at39 + (1 : Int))).toNat))).bind fun r96 => (bif (!r96) then kxr (3 : Int) at39 [] else (bif (decide ((c43.length : Int) = (40 : Int))) then kxr (4 : Int) at39 [] else impl_ReadSegs_k0 n kx2 kxr J text26 n27 at39 ended40 (byteAt text26 at39.toNat) list30 s41 c42 c43)))) else (bif (decide ((c43.length : Int) = (40 : Int))) then kxr (4 : Int) at39 [] else impl_ReadSegs_k0 n kx2 kxr J text26 n27 at39 ended40 (byteAt text26 at39.toNat) list30 s41 c42 c43)))))))
def impl_ReadSegs_L16 {R : Type} (n : Nat) (kx2 : Int → ByteArray → List (List ByteArray) → Option R) (kxr : Int → Int → List SSeg → Option R) (J : Int → Bool → ByteArray → List (List ByteArray) → List Int → Option R) (text26 : ByteArray) (n27 : Int) (at28 : Int) (ended29 : Bool) (list30 : List SSeg) (s31 : ByteArray) (c32 : List (List ByteArray)) (c33 : List Int) : Option R :=
  (bif (!ended29) then (bif (decide (at28 = n27)) then kxr (5 : Int) n27 [] else impl_ReadSegs_k1 n kx2 kxr J text26 n27 at28 ended29 list30 s31 c32 c33) else kx2 at28 s31 c32)
def impl_ReadSegs_k2 {R : Type} (n : Nat) (kx5 : List (List ByteArray) → Option R) (J : Int → List (List ByteArray) → Option R) (text174 : ByteArray) (n175 : Int) (at176 : Int) (t177 : Int) (t182 : Int) (list179 : List SSeg) (s180 : ByteArray) (c183 : List (List ByteArray)) : Option R :=
  ix t182 c183.length (chk (decide (t182.toNat < c183.length)) (chk (decide (t182.toNat < c183.length)) ((impl_own_string n (c183.getD t182.toNat [])).bind fun r184 => ix t182 c183.length (chk (decide (t182.toNat < c183.length)) (J (w64 (t182 + (1 : Int))) (c183.set t182.toNat r184))))))
def impl_ReadSegs_L41 {R : Type} (n : Nat) (kx5 : List (List ByteArray) → Option R) (J : Int → List (List ByteArray) → Option R) (text174 : ByteArray) (n175 : Int) (at176 : Int) (t177 : Int) (t178 : Int) (list179 : List SSeg) (s180 : ByteArray) (c181 : List (List ByteArray)) : Option R :=
  (bif (decide (t178 < t177)) then impl_ReadSegs_k2 n kx5 J text174 n175 at176 t177 t178 list179 s180 c181 else kx5 c181)
def impl_ReadSegs_k3 {R : Type} (n : Nat) (kx0 : List SSeg → Option R) (kxr : Int → Int → List SSeg → Option R) (J : Int → List SSeg → Option R) (text2 : ByteArray) (n3 : Int) (at24 : Int) (list25 : List SSeg) : Option R :=
  chk (decide ((0 : Int) ≤ (w64 (at24 + (3 : Int))))) (chk (decide ((w64 (at24 + (3 : Int))) ≤ (text2.size : Int))) (chk (decide ((0 : Int) ≤ at24)) (chk (decide (at24 ≤ (w64 (at24 + (3 : Int))))) (loopN (fun (x : Int × Bool × ByteArray × List (List ByteArray) × List Int) J' => impl_ReadSegs_L16 n (fun at171 s172 c173 => loopN (fun (x : Int × List (List ByteArray)) J' => impl_ReadSegs_L41 n (fun c185 => (impl_own_string_f142 n c185).bind fun r186 => (bd (list25 ++ [(⟨s172, r186⟩ : SSeg)]) fun (l187 : List SSeg) => chk (decide (l187.length * 40 ≤ 140737488355328)) (J at171 l187))) (fun t188 c189 => J' (t188, c189)) text2 n3 at171 (c173.length : Int) x.1 list25 s172 x.2) n ((0 : Int), c173)) (fun t190 t191 t192 => kxr t190 t191 t192) (fun at193 ended194 s195 c196 c197 => J' (at193, ended194, s195, c196, c197)) text2 n3 x.1 x.2.1 list25 x.2.2.1 x.2.2.2.1 x.2.2.2.2) n ((w64 (at24 + (3 : Int))), false, (text2.extract at24.toNat ((w64 (at24 + (3 : Int))).toNat)), [], [])))))
def impl_ReadSegs_k4 {R : Type} (n : Nat) (kx0 : List SSeg → Option R) (kxr : Int → Int → List SSeg → Option R) (J : Int → List SSeg → Option R) (text2 : ByteArray) (n3 : Int) (at8 : Int) (list9 : List SSeg) : Option R :=
  (bif (decide ((w64 (at8 + (4 : Int))) > n3)) then kxr (2 : Int) at8 [] else ix at8 text2.size ((impl_capital n (byteAt text2 at8.toNat)).bind fun r12 => (bif (!r12) then kxr (2 : Int) at8 [] else ix (w64 (at8 + (1 : Int))) text2.size ((impl_capital n (byteAt text2 ((w64 (at8 + (1 : Int))).toNat))).bind fun r15 => (bif (!r15) then kxr (2 : Int) at8 [] else ix (w64 (at8 + (2 : Int))) text2.size ((impl_capital n (byteAt text2 ((w64 (at8 + (2 : Int))).toNat))).bind fun r18 => (bif (!r18) then kxr (2 : Int) at8 [] else ix (w64 (at8 + (3 : Int))) text2.size ((bif (!(decide ((byteAt text2 ((w64 (at8 + (3 : Int))).toNat)) = (43 : Int)))) then ix (w64 (at8 + (3 : Int))) text2.size ((bif (!(decide ((byteAt text2 ((w64 (at8 + (3 : Int))).toNat)) = (39 : Int)))) then kxr (2 : Int) at8 [] else impl_ReadSegs_k3 n kx0 kxr J text2 n3 at8 list9)) else impl_ReadSegs_k3 n kx0 kxr J text2 n3 at8 list9)))))))))
def impl_ReadSegs_L6 {R : Type} (n : Nat) (kx0 : List SSeg → Option R) (kxr : Int → Int → List SSeg → Option R) (J : Int → List SSeg → Option R) (text2 : ByteArray) (n3 : Int) (at4 : Int) (list5 : List SSeg) : Option R :=
  (bif (decide (at4 < n3)) then (bif (decide ((list5.length : Int) = (60 : Int))) then kxr (4 : Int) at4 [] else impl_ReadSegs_k4 n kx0 kxr J text2 n3 at4 list5) else kx0 list5)
def impl_ReadSegs (n : Nat) (text0 : ByteArray) : Option (List SSeg × Int × Int) :=
  (bif (decide ((text0.size : Int) > (2000 : Int))) then some ([], (1 : Int), (0 : Int)) else loopN (fun (x : Int × List SSeg) J' => impl_ReadSegs_L6 n (fun list215 => (impl_own_impl_Seg n list215).bind fun r216 => some (r216, (0 : Int), (0 : Int))) (fun t217 t218 t219 => some (t219, t217, t218)) (fun at220 list221 => J' (at220, list221)) text0 (text0.size : Int) x.1 x.2) n ((0 : Int), []))
def laws_eqStringS_L4 {R : Type} (n : Nat) (kx0 : Option R) (kxr : Bool → Option R) (J : Int → Option R) (a1 : List ByteArray) (b2 : List ByteArray) (i3 : Int) : Option R :=
  (bif (decide (i3 < (a1.length : Int))) then ix i3 a1.length (ix i3 b2.length ((bif (!(decide ((a1.getD i3.toNat (str [])) = (b2.getD i3.toNat (str []))))) then kxr false else J (w64 (i3 + (1 : Int)))))) else kx0)
def laws_eqStringS (n : Nat) (a0 : List ByteArray) (b1 : List ByteArray) : Option Bool :=
  (bif (!(decide ((a0.length : Int) = (b1.length : Int)))) then some (false) else loopN (fun (x : Int) J' => laws_eqStringS_L4 n (some (true)) (fun t9 => some (t9)) J' a0 b1 x) n ((0 : Int)))
def laws_eqStringSS_L4 {R : Type} (n : Nat) (kx0 : Option R) (kxr : Bool → Option R) (J : Int → Option R) (a1 : List (List ByteArray)) (b2 : List (List ByteArray)) (i3 : Int) : Option R :=
  (bif (decide (i3 < (a1.length : Int))) then ix i3 a1.length (ix i3 b2.length ((laws_eqStringS n (a1.getD i3.toNat []) (b2.getD i3.toNat [])).bind fun r7 => (bif (!r7) then kxr false else J (w64 (i3 + (1 : Int)))))) else kx0)
def laws_eqStringSS (n : Nat) (a0 : List (List ByteArray)) (b1 : List (List ByteArray)) : Option Bool :=
  (bif (!(decide ((a0.length : Int) = (b1.length : Int)))) then some (false) else loopN (fun (x : Int) J' => laws_eqStringSS_L4 n (some (true)) (fun t11 => some (t11)) J' a0 b1 x) n ((0 : Int)))
def laws_eqSeg (n : Nat) (a0 : SSeg) (b1 : SSeg) : Option Bool :=
  (bif (!(decide (a0.Tag = b1.Tag))) then some (false) else (laws_eqStringSS n a0.Parts b1.Parts).bind fun r2 => (bif (!r2) then some (false) else some (true)))
def laws_eqSegS_L4 {R : Type} (n : Nat) (kx0 : Option R) (kxr : Bool → Option R) (J : Int → Option R) (a1 : List SSeg) (b2 : List SSeg) (i3 : Int) : Option R :=
  (bif (decide (i3 < (a1.length : Int))) then ix i3 a1.length ((bd (a1.getD i3.toNat dSSeg) fun (e9 : SSeg) => ix i3 b2.length ((bd (b2.getD i3.toNat dSSeg) fun (e10 : SSeg) => (laws_eqSeg n e9 e10).bind fun r11 => (bif (!r11) then kxr false else J (w64 (i3 + (1 : Int)))))))) else kx0)
def laws_eqSegS (n : Nat) (a0 : List SSeg) (b1 : List SSeg) : Option Bool :=
  (bif (!(decide ((a0.length : Int) = (b1.length : Int)))) then some (false) else loopN (fun (x : Int) J' => laws_eqSegS_L4 n (some (true)) (fun t15 => some (t15)) J' a0 b1 x) n ((0 : Int)))
def laws_markText_L4 {R : Type} (n : Nat) (kx0 : ByteArray → Option R) (J : Int → ByteArray → Option R) (k2 : Int) (out3 : ByteArray) : Option R :=
  (bif (decide (k2 > (0 : Int))) then (bd (w64 ((48 : Int) + (Int.tmod k2 (10 : Int)))) fun (v8 : Int) => chk (decide ((((bstr [(wu8 v8)]).size + out3.size : Nat) : Int) ≤ 9223372036854775807)) ((bd (w64 (Int.tdiv k2 (10 : Int))) fun (v9 : Int) => J v9 ((bstr [(wu8 v8)]) ++ out3)))) else kx0 out3)
def laws_markText (n : Nat) (k0 : Int) : Option ByteArray :=
  (bif (decide (k0 ≤ (0 : Int))) then some (str [109, 48]) else loopN (fun (x : Int × ByteArray) J' => laws_markText_L4 n (fun out13 => chk (decide ((((str [109]).size + out13.size : Nat) : Int) ≤ 9223372036854775807)) (some ((str [109] ++ out13)))) (fun k14 out15 => J' (k14, out15)) x.1 x.2) n (k0, str []))
def laws_markStringS_L2 {R : Type} (n : Nat) (kx0 : Int → List ByteArray → Option R) (J : Int → Int → List ByteArray → Option R) (k1 : Int) (i2 : Int) (p3 : List ByteArray) : Option R :=
  (bif (decide (i2 < (p3.length : Int))) then (laws_markText n k1).bind fun r8 => ix i2 p3.length (chk (decide (i2.toNat < p3.length)) (J (w64 (k1 + (1 : Int))) (w64 (i2 + (1 : Int))) (p3.set i2.toNat r8))) else kx0 k1 p3)
def laws_markStringS (n : Nat) (a0 : List ByteArray) (k1 : Int) : Option (Int × List ByteArray) :=
  loopN (fun (x : Int × Int × List ByteArray) J' => laws_markStringS_L2 n (fun k9 p10 => some (k9, p10)) (fun k11 i12 p13 => J' (k11, i12, p13)) x.1 x.2.1 x.2.2) n (k1, (0 : Int), a0)
def laws_markStringSS_k0 {R : Type} (n : Nat) (kx0 : Int → List (List ByteArray) → Option R) (J : Int → Int → List (List ByteArray) → Option R) (k4 : Int) (i5 : Int) (p6 : List (List ByteArray)) : Option R :=
  ix i5 p6.length (chk (decide (i5.toNat < p6.length)) (chk (decide (i5.toNat < p6.length)) ((laws_markStringS n (p6.getD i5.toNat []) k4).bind fun r7 => chk (decide (i5.toNat = i5.toNat)) (chk (decide (i5.toNat < p6.length)) (J r7.1 (w64 (i5 + (1 : Int))) (p6.set i5.toNat r7.2))))))
def laws_markStringSS_L2 {R : Type} (n : Nat) (kx0 : Int → List (List ByteArray) → Option R) (J : Int → Int → List (List ByteArray) → Option R) (k1 : Int) (i2 : Int) (p3 : List (List ByteArray)) : Option R :=
  (bif (decide (i2 < (p3.length : Int))) then laws_markStringSS_k0 n kx0 J k1 i2 p3 else kx0 k1 p3)
def laws_markStringSS (n : Nat) (a0 : List (List ByteArray)) (k1 : Int) : Option (Int × List (List ByteArray)) :=
  loopN (fun (x : Int × Int × List (List ByteArray)) J' => laws_markStringSS_L2 n (fun k8 p9 => some (k8, p9)) (fun k10 i11 p12 => J' (k10, i11, p12)) x.1 x.2.1 x.2.2) n (k1, (0 : Int), a0)
def laws_markSegS_k0 {R : Type} (n : Nat) (kx0 : Int → List SSeg → Option R) (J : Int → Int → List SSeg → Option R) (k4 : Int) (i5 : Int) (p6 : List SSeg) : Option R :=
  (laws_markText n k4).bind fun r7 => ix i5 p6.length (chk (decide (i5.toNat < p6.length)) ((bd (p6.getD i5.toNat dSSeg) fun (e8 : SSeg) => (bd (p6.set i5.toNat (⟨r7, e8.Parts⟩ : SSeg)) fun (l9 : List SSeg) => ix i5 l9.length (chk (decide (i5.toNat < l9.length)) (chk (decide (i5.toNat < l9.length)) ((laws_markStringSS n ((l9.getD i5.toNat dSSeg).Parts) (w64 (k4 + (1 : Int)))).bind fun r10 => chk (decide (i5.toNat = i5.toNat)) (chk (decide (i5.toNat < l9.length)) ((bd (l9.getD i5.toNat dSSeg) fun (e11 : SSeg) => (bd (l9.set i5.toNat (⟨e11.Tag, r10.2⟩ : SSeg)) fun (l12 : List SSeg) => J r10.1 (w64 (i5 + (1 : Int))) l12)))))))))))
def laws_markSegS_L2 {R : Type} (n : Nat) (kx0 : Int → List SSeg → Option R) (J : Int → Int → List SSeg → Option R) (k1 : Int) (i2 : Int) (p3 : List SSeg) : Option R :=
  (bif (decide (i2 < (p3.length : Int))) then laws_markSegS_k0 n kx0 J k1 i2 p3 else kx0 k1 p3)
def laws_markSegS (n : Nat) (a0 : List SSeg) (k1 : Int) : Option (Int × List SSeg) :=
  loopN (fun (x : Int × Int × List SSeg) J' => laws_markSegS_L2 n (fun k13 p14 => some (k13, p14)) (fun k15 i16 p17 => J' (k15, i16, p17)) x.1 x.2.1 x.2.2) n (k1, (0 : Int), a0)
def laws_heldStringS_L2 {R : Type} (n : Nat) (kx0 : Int → Option R) (kxr : Int → Option R) (J : Int → Int → Option R) (a1 : List ByteArray) (k2 : Int) (i3 : Int) : Option R :=
  (bif (decide (i3 < (a1.length : Int))) then ix i3 a1.length ((laws_markText n k2).bind fun r13 => (bif (!(decide ((a1.getD i3.toNat (str [])) = r13))) then kxr (-1 : Int) else J (w64 (k2 + (1 : Int))) (w64 (i3 + (1 : Int))))) else kx0 k2)
def laws_heldStringS (n : Nat) (a0 : List ByteArray) (k1 : Int) : Option Int :=
  loopN (fun (x : Int × Int) J' => laws_heldStringS_L2 n (fun k18 => some (k18)) (fun t19 => some (t19)) (fun k20 i21 => J' (k20, i21)) a0 x.1 x.2) n (k1, (0 : Int))
def laws_heldStringSS_L2 {R : Type} (n : Nat) (kx0 : Int → Option R) (kxr : Int → Option R) (J : Int → Int → Option R) (a1 : List (List ByteArray)) (k2 : Int) (i3 : Int) : Option R :=
  (bif (decide (i3 < (a1.length : Int))) then ix i3 a1.length ((laws_heldStringS n (a1.getD i3.toNat []) k2).bind fun r9 => (bif (decide (r9 < (0 : Int))) then kxr (-1 : Int) else J r9 (w64 (i3 + (1 : Int))))) else kx0 k2)
def laws_heldStringSS (n : Nat) (a0 : List (List ByteArray)) (k1 : Int) : Option Int :=
  loopN (fun (x : Int × Int) J' => laws_heldStringSS_L2 n (fun k12 => some (k12)) (fun t13 => some (t13)) (fun k14 i15 => J' (k14, i15)) a0 x.1 x.2) n (k1, (0 : Int))
def laws_heldSegS_k0 {R : Type} (n : Nat) (kx0 : Int → Option R) (kxr : Int → Option R) (J : Int → Int → Option R) (a1 : List SSeg) (k4 : Int) (i5 : Int) : Option R :=
  ix i5 a1.length ((bd (a1.getD i5.toNat dSSeg) fun (e6 : SSeg) => (laws_markText n k4).bind fun r7 => (bif (!(decide (e6.Tag = r7))) then kxr (-1 : Int) else ix i5 a1.length ((bd (a1.getD i5.toNat dSSeg) fun (e14 : SSeg) => (laws_heldStringSS n e14.Parts (w64 (k4 + (1 : Int)))).bind fun r15 => (bif (decide (r15 < (0 : Int))) then kxr (-1 : Int) else J r15 (w64 (i5 + (1 : Int)))))))))
def laws_heldSegS_L2 {R : Type} (n : Nat) (kx0 : Int → Option R) (kxr : Int → Option R) (J : Int → Int → Option R) (a1 : List SSeg) (k2 : Int) (i3 : Int) : Option R :=
  (bif (decide (i3 < (a1.length : Int))) then laws_heldSegS_k0 n kx0 kxr J a1 k2 i3 else kx0 k2)
def laws_heldSegS (n : Nat) (a0 : List SSeg) (k1 : Int) : Option Int :=
  loopN (fun (x : Int × Int) J' => laws_heldSegS_L2 n (fun k18 => some (k18)) (fun t19 => some (t19)) (fun k20 i21 => J' (k20, i21)) a0 x.1 x.2) n (k1, (0 : Int))
def laws_FnExactReadSegs_k0 (n : Nat)  (aText0 : ByteArray) (w129 : Int) (w230 : Int) (m31 : Int) (t32 : List SSeg) (t33 : List SSeg) : Option Bool :=
  (impl_ReadSegs n aText0).bind fun r34 => (laws_eqSegS n r34.1 t32).bind fun r35 => (bif (!r35) then some (false) else (bif (!(decide (r34.2.1 = w129))) then some (false) else (bif (!(decide (r34.2.2 = w230))) then some (false) else (laws_heldSegS n t33 (1 : Int)).bind fun r53 => (bif (decide (r53 < (0 : Int))) then some (false) else (bif (!(decide (r53 = m31))) then some (false) else some (true))))))
def laws_FnExactReadSegs_k1 (n : Nat)  (aText0 : ByteArray) (w112 : Int) (w213 : Int) (t14 : Bool) (t15 : List SSeg) (t16 : List SSeg) : Option Bool :=
  (bif t14 then some (false) else (laws_markSegS n t16 (1 : Int)).bind fun r61 => (laws_heldSegS n r61.2 (1 : Int)).bind fun r62 => (bif (decide (r62 < (0 : Int))) then some (false) else (bif (!(decide (r62 = r61.1))) then some (false) else laws_FnExactReadSegs_k0 n  aText0 w112 w213 r61.1 t15 r61.2)))
def laws_FnExactReadSegs (n : Nat) (aText0 : ByteArray) : Option Bool :=
  (bif (decide ((aText0.size : Int) > (1048576 : Int))) then some (true) else (spec_ReadSegs n aText0).bind fun r74 => (impl_ReadSegs n aText0).bind fun r75 => (laws_eqSegS n r75.1 r74.1).bind fun r76 => (bif (!r76) then some (false) else (bif (!(decide (r75.2.1 = r74.2.1))) then some (false) else laws_FnExactReadSegs_k1 n  aText0 r74.2.1 r74.2.2 (!(decide (r75.2.2 = r74.2.2))) r74.1 r75.1)))
def rng (a b x : Int) : Prop := a ≤ x ∧ x ≤ b
def wfSSeg (x : SSeg) : Prop := x.Tag.size ≤ 9223372036854775807 ∧ (x.Parts.length ≤ 9223372036854775807 ∧ ∀ y ∈ x.Parts, (y.length ≤ 9223372036854775807 ∧ ∀ z ∈ y, z.size ≤ 9223372036854775807))
end Go.Sm
end

section
set_option linter.unusedSimpArgs false
set_option linter.deprecated false
set_option linter.unusedSectionVars false
set_option linter.unusedVariables false
namespace Go.Sm
/-! ### Of the words that printed functions are made of -/
theorem w64_id {x : Int} (h1 : -9223372036854775808 ≤ x) (h2 : x ≤ 9223372036854775807) : w64 x = x := by
  show (let m := x % (2 ^ 64 : Int); if (true && decide ((2 : Int) ^ 63 ≤ m)) = true then m - 2 ^ 64 else m) = x
  simp only [Bool.true_and, decide_eq_true_eq]
  split <;> omega
theorem w64_rng (x : Int) : -9223372036854775808 ≤ w64 x ∧ w64 x ≤ 9223372036854775807 := by
  show -9223372036854775808 ≤ (let m := x % (2 ^ 64 : Int); if (true && decide ((2 : Int) ^ 63 ≤ m)) = true then m - 2 ^ 64 else m) ∧ (let m := x % (2 ^ 64 : Int); if (true && decide ((2 : Int) ^ 63 ≤ m)) = true then m - 2 ^ 64 else m) ≤ 9223372036854775807
  simp only [Bool.true_and, decide_eq_true_eq]
  split <;> omega
theorem chk_of {R : Type} {b : Bool} {x : Option R} (h : b = true) : chk b x = x := by rw [h]; rfl
theorem chk_true {R : Type} {x : Option R} : chk true x = x := rfl
theorem chk_dec {R : Type} {p : Prop} [Decidable p] {x : Option R} (h : p) : chk (decide p) x = x := chk_of (decide_eq_true h)
theorem ix_of {R : Type} {i : Int} {len : Nat} {x : Option R} (h0 : 0 ≤ i) (h1 : i < (len : Int)) : ix i len x = x := by
  unfold ix
  rw [decide_eq_true h0, decide_eq_true h1]
  rfl
theorem ix_nat {R : Type} {i len : Nat} {x : Option R} (h1 : i < len) : ix (i : Int) len x = x := ix_of (by omega) (by omega)
theorem bif_dec {α : Type} {p : Prop} [Decidable p] {x y : α} : (bif decide p then x else y) = if p then x else y := by
  by_cases h : p <;> simp [h]
theorem bif_not {α : Type} {b : Bool} {x y : α} : (bif !b then x else y) = bif b then y else x := by cases b <;> rfl
theorem bif_and {α : Type} {a b : Bool} {x y : α} : (bif a && b then x else y) = bif a then (bif b then x else y) else y := by cases a <;> rfl
theorem loopN_succ {X R : Type} (b : X → (X → Option R) → Option R) (m : Nat) (x : X) : loopN b (m + 1) x = b x (loopN b m) := rfl
/-- What holds of a loop: by what is left to go. -/
theorem loopN_ind {X R : Type} {b : X → (X → Option R) → Option R} (μ : X → Nat) (I : X → Prop) (Q : X → Option R → Prop)
    (h : ∀ x J, I x → (∀ y, I y → μ y < μ x → Q y (J y)) → Q x (b x J)) : ∀ n x, I x → μ x < n → Q x (loopN b n x)
  | 0, x, hi, hm => absurd hm (Nat.not_lt_zero _)
  | n + 1, x, hi, hm => h x (loopN b n) hi fun y hy hl => loopN_ind μ I Q h n y hy (by omega)
theorem getD_eq {α : Type} {l : List α} {i : Nat} {d : α} (h : i < l.length) : l.getD i d = l[i] := by
  simp [List.getD, h]
theorem w64_succ {k : Nat} (h : k < 9223372036854775807) : w64 ((k : Int) + 1) = ((k + 1 : Nat) : Int) := by
  rw [w64_id (by omega) (by omega)]
  rfl
theorem take_succ_getD {α : Type} {l : List α} {i : Nat} {d : α} (h : i < l.length) : l.take (i + 1) = l.take i ++ [l.getD i d] := by
  rw [List.take_succ, getD_eq h, List.getElem?_eq_getElem h]
  rfl
theorem drop_getD {α : Type} {l : List α} {i : Nat} {d : α} (h : i < l.length) : l.drop i = l.getD i d :: l.drop (i + 1) := by
  rw [getD_eq h]
  exact List.drop_eq_getElem_cons h
theorem bd_eq {α β : Type} (e : α) (f : α → β) : bd e f = f e := rfl
theorem bd_set {α β : Type} {Q : β → Prop} {F : List α → β} {p : List α} {i : Nat} {x : α} (h : ∀ l : List α, l.length = p.length → Q (F l)) : Q (bd (p.set i x) F) := h _ (by simp)
theorem bd_is {α β : Type} {Q : β → Prop} {F : α → β} {e : α} (h : ∀ v : α, v = e → Q (F v)) : Q (bd e F) := h _ rfl
theorem bd_val {α β : Type} {Q : β → Prop} {F : α → β} {e : α} (h : ∀ v : α, Q (F v)) : Q (bd e F) := h _
theorem chk_q {R : Type} {Q : Option R → Prop} {b : Bool} {x : Option R} (h : b = true) (hx : Q x) : Q (chk b x) := by rw [chk_of h]; exact hx
theorem ix_q {R : Type} {Q : Option R → Prop} {i : Int} {len : Nat} {x : Option R} (h0 : 0 ≤ i) (h1 : i < (len : Int)) (hx : Q x) : Q (ix i len x) := by rw [ix_of h0 h1]; exact hx
theorem bd_upd {α β : Type} {Q : β → Prop} {F : List α → β} {p : List α} {i : Nat} {x d : α} (hi : i < p.length) (h : ∀ l : List α, l.length = p.length → l.getD i d = x → (∀ j, j ≠ i → l.getD j d = p.getD j d) → Q (F l)) : Q (bd (p.set i x) F) :=
  h _ (by simp) (by simp [List.getD, hi]) (fun j hj => by simp [List.getD, List.getElem?_set, Ne.symm hj])
/-- A list written from the front. -/
theorem set_take {α : Type} {a : List α} {d : α} {m k : Nat} (h : k < a.length) (hm : m = a.length := by rfl) : (a.take k ++ (List.replicate m d).drop k).set k (a.getD k d) = a.take (k + 1) ++ (List.replicate m d).drop (k + 1) := by
  subst hm
  have h1 : (a.take k).length = k := by simp; omega
  rw [List.set_append_right _ _ (by omega), h1, Nat.sub_self, take_succ_getD h, List.append_assoc]
  congr 1
  rw [List.drop_eq_getElem_cons (by simp; exact h)]
  rfl
/-! ### Loops over 0 .. len, by what is left -/
/-- Steps k, k+1, .. told one after the other; J: what comes behind a step. -/
def forK {S R : Type} (step : Nat → S → (S → Option R) → Option R) (fin : S → Option R) : Nat → Nat → S → Option R
  | 0, _, s => fin s
  | m + 1, k, s => step k s fun s' => forK step fin m (k + 1) s'
theorem loop_forK {X S R : Type} {b : X → (X → Option R) → Option R} {enc : Nat → S → X} {len : Nat} {step : Nat → S → (S → Option R) → Option R} {fin : S → Option R} (I : Nat → S → Prop)
    (hstep : ∀ k s J J', k < len → I k s → (∀ s', I (k + 1) s' → J (enc (k + 1) s') = J' s') → b (enc k s) J = step k s J') (hfin : ∀ s J, I len s → b (enc len s) J = fin s) :
    ∀ m k s n, k + m = len → m < n → I k s → loopN b n (enc k s) = forK step fin m k s
  | 0, k, s, 0, _, h, _ => absurd h (Nat.lt_irrefl _)
  | 0, k, s, n + 1, hk, _, hi => by
    have hk : k = len := by omega
    subst hk
    exact hfin s _ hi
  | m + 1, k, s, 0, _, h, _ => absurd h (Nat.not_lt_zero _)
  | m + 1, k, s, n + 1, hk, hn, hi => by
    show b (enc k s) (loopN b n) = step k s fun s' => forK step fin m (k + 1) s'
    exact hstep k s _ _ (by omega) hi fun s' hi' => loop_forK I hstep hfin m (k + 1) s' n (by omega) (by omega) hi'
/-- The first k at which f answers; at none: z. -/
def scanK {R : Type} (f : Nat → Option (Option R)) (z : Option R) : Nat → Nat → Option R
  | 0, _ => z
  | m + 1, k => match f k with
    | some r => r
    | none => scanK f z m (k + 1)
theorem loop_scan {X R : Type} {b : X → (X → Option R) → Option R} {enc : Nat → X} {len : Nat} {f : Nat → Option (Option R)} {z : Option R}
    (hstep : ∀ k J, k < len → b (enc k) J = match f k with | some r => r | none => J (enc (k + 1))) (hfin : ∀ J, b (enc len) J = z) :
    ∀ m k n, k + m = len → m < n → loopN b n (enc k) = scanK f z m k
  | 0, k, 0, _, h => absurd h (Nat.lt_irrefl _)
  | 0, k, n + 1, hk, _ => by
    have hk : k = len := by omega
    subst hk
    exact hfin _
  | m + 1, k, 0, _, h => absurd h (Nat.not_lt_zero _)
  | m + 1, k, n + 1, hk, hn => by
    show b (enc k) (loopN b n) = _
    rw [hstep k _ (by omega)]
    unfold scanK
    cases f k with
    | some r => rfl
    | none => exact loop_scan hstep hfin m (k + 1) n (by omega) (by omega)
/-- Is p so of all of k, .. k + m - 1? -/
theorem scan_all {R : Type} {p : Nat → Bool} {r z : Option R} : ∀ m k, scanK (fun k => bif p k then none else some r) z m k = bif (List.range' k m).all p then z else r
  | 0, k => rfl
  | m + 1, k => by
    rw [scanK, List.range'_succ, List.all_cons]
    cases h : p k with
    | true => simp only [cond_true, Bool.true_and]; exact scan_all m (k + 1)
    | false => rfl
theorem scan_any {R : Type} {p : Nat → Bool} {r z : Option R} : ∀ m k, scanK (fun k => bif p k then some r else none) z m k = bif (List.range' k m).any p then r else z
  | 0, k => rfl
  | m + 1, k => by
    rw [scanK, List.range'_succ, List.any_cons]
    cases h : p k with
    | false => simp only [cond_false, Bool.false_or]; exact scan_any m (k + 1)
    | true => rfl
theorem mgetI_mputI {β : Type} (l : List (Int × β)) (n m : Int) (v : β) : mgetI (mputI l n v) m = if m = n then some v else mgetI l m := by
  unfold mgetI mputI
  induction l with
  | nil =>
    by_cases h : m = n <;> simp [h]
  | cons a l ih =>
    rw [List.findIdx?_cons]
    by_cases h : n = a.1
    · simp only [h, decide_true, if_true, Option.elim_some, List.set_cons_zero, List.find?_cons]
      by_cases h2 : m = a.1
      · simp [h2]
      · simp [h2]
    · simp only [h, decide_false, Bool.false_eq_true, if_false]
      cases hf : l.findIdx? (fun e => decide (n = e.1)) with
      | none =>
        rw [hf] at ih
        simp only [Option.elim_none] at ih
        simp only [Option.map_none, Option.elim_none, List.cons_append, List.find?_cons]
        by_cases h2 : m = a.1
        · have : m ≠ n := fun e => h (e ▸ h2)
          simp [h2]
          simp [h2] at this
          simp [this]
        · simp only [h2, decide_false]
          exact ih
      | some i =>
        rw [hf] at ih
        simp only [Option.elim_some] at ih
        simp only [Option.map_some, Option.elim_some, List.set_cons_succ, List.find?_cons]
        by_cases h2 : m = a.1
        · have : m ≠ n := fun e => h (e ▸ h2)
          simp [h2]
          simp [h2] at this
          simp [this]
        · simp only [h2, decide_false]
          exact ih
theorem mgetI_nil {β : Type} (m : Int) : mgetI ([] : List (Int × β)) m = none := rfl
/-! ### Chains of tests -/
theorem bif_and' {α : Type} {a b : Bool} {x y : α} : (bif a then (bif b then x else y) else y) = bif a && b then x else y := by cases a <;> rfl
theorem bif_or' {α : Type} {a b : Bool} {x y : α} : (bif a then y else (bif b then x else y)) = bif !a && b then x else y := by cases a <;> rfl
theorem bif_and2 {α : Type} {a b : Bool} {x y : α} : (bif a then (bif b then y else x) else y) = bif a && !b then x else y := by cases a <;> cases b <;> rfl
theorem bif_or2 {α : Type} {a b : Bool} {x y : α} : (bif a then y else (bif b then y else x)) = bif !a && !b then x else y := by cases a <;> cases b <;> rfl
theorem bif_some {α β : Type} {a : Bool} {x y : α} {f : α → Option β} : (bif a then some x else some y).bind f = bif a then f x else f y := by cases a <;> rfl
theorem bif_tf {a : Bool} : (bif a then some true else some false) = some a := by cases a <;> rfl
theorem bif_ft {a : Bool} : (bif a then some false else some true) = some (!a) := by cases a <;> rfl
theorem bif_sf {a b : Bool} : (bif a then some b else some false) = some (a && b) := by cases a <;> rfl
theorem all_range_succ {p : Nat → Bool} {k : Nat} : (List.range (k + 1)).all p = ((List.range k).all p && p k) := by
  rw [List.range_succ, List.all_append]
  simp
theorem any_range_succ {p : Nat → Bool} {k : Nat} : (List.range (k + 1)).any p = ((List.range k).any p || p k) := by
  rw [List.range_succ, List.any_append]
  simp
theorem all_range_not {p : Nat → Bool} {k m : Nat} (hk : k < m) (h : p k = false) : (List.range m).all p = false := by
  rw [Bool.eq_false_iff]
  intro e
  rw [List.all_eq_true] at e
  rw [e k (List.mem_range.2 hk)] at h
  cases h
theorem any_range_of {p : Nat → Bool} {k m : Nat} (hk : k < m) (h : p k = true) : (List.range m).any p = true := by
  rw [List.any_eq_true]
  exact ⟨k, List.mem_range.2 hk, h⟩
/-- A loop that looks at k = 0, 1, .. and leaves at the first that is not so. -/
theorem loop_all {R : Type} {b : Int → (Int → Option R) → Option R} {len : Nat} {p : Nat → Bool} {no yes : Option R} (hlen : len ≤ 9223372036854775807)
    (hstep : ∀ (k : Nat) (J : Int → Option R), k < len → (∀ j, j < k → p j = true) → b (k : Int) J = bif p k then J ((k + 1 : Nat) : Int) else no) (hfin : ∀ J, (∀ j, j < len → p j = true) → b (len : Int) J = yes) {n : Nat} (hn : len < n) :
    loopN b n (0 : Int) = bif (List.range len).all p then yes else no := by
  refine loopN_ind (fun x => len - x.toNat) (fun x => ∃ k : Nat, k ≤ len ∧ x = (k : Int) ∧ (List.range k).all p = true) (fun x r => r = bif (List.range len).all p then yes else no) ?_ n _ ⟨0, by omega, rfl, rfl⟩ (by simp; omega)
  rintro _ J ⟨k, hk, rfl, hb⟩ ih
  have hb' : ∀ j, j < k → p j = true := fun j hj => List.all_eq_true.1 hb j (List.mem_range.2 hj)
  by_cases h : k < len
  · rw [hstep k J h hb']
    cases hp : p k with
    | true => exact ih _ ⟨k + 1, h, rfl, by rw [all_range_succ, hb, hp]; rfl⟩ (by simp; omega)
    | false => rw [all_range_not h hp]; rfl
  · have : k = len := by omega
    subst this
    rw [hfin _ hb', hb]
    rfl
/-- The same, a state turned on the way (its invariant: I). -/
theorem loop_allS {S R : Type} {X : Type} {enc : Int → S → X} {b : X → (X → Option R) → Option R} {len : Nat} {p : Nat → Bool} {I : Nat → S → Prop} {no yes : Option R}
    (hstep : ∀ (k : Nat) (s : S) (J : X → Option R), k < len → I k s → (∀ j, j < k → p j = true) → ∃ s', (p k = true → I (k + 1) s') ∧ b (enc (k : Int) s) J = bif p k then J (enc ((k + 1 : Nat) : Int) s') else no) (hfin : ∀ s J, I len s → (∀ j, j < len → p j = true) → b (enc (len : Int) s) J = yes) {n : Nat} (hn : len < n) {s0 : S} (h0 : I 0 s0) :
    loopN b n (enc (0 : Int) s0) = bif (List.range len).all p then yes else no := by
  have key : ∀ m (k : Nat) (s : S) n, k + m = len → m < n → I k s → (List.range k).all p = true → loopN b n (enc (k : Int) s) = bif (List.range len).all p then yes else no := by
    intro m
    induction m with
    | zero =>
      intro k s n hk hn hi hb
      have hb' : ∀ j, j < k → p j = true := fun j hj => List.all_eq_true.1 hb j (List.mem_range.2 hj)
      have hk : k = len := by omega
      subst hk
      cases n with
      | zero => omega
      | succ n => rw [loopN_succ, hfin s _ hi hb', hb]; rfl
    | succ m ih =>
      intro k s n hk hn hi hb
      have hb' : ∀ j, j < k → p j = true := fun j hj => List.all_eq_true.1 hb j (List.mem_range.2 hj)
      cases n with
      | zero => omega
      | succ n =>
        rw [loopN_succ]
        obtain ⟨s', h1, h2⟩ := hstep k s (loopN b n) (by omega) hi hb'
        rw [h2]
        cases hp : p k with
        | true => exact ih (k + 1) s' n (by omega) (by omega) (h1 hp) (by rw [all_range_succ, hb, hp]; rfl)
        | false => rw [all_range_not (by omega : k < len) hp]; rfl
  exact key len 0 s0 n (by omega) hn h0 rfl
/-- A loop over 0 .. len that never leaves early; its state: I. -/
theorem loop_runS {S R : Type} {X : Type} {enc : Int → S → X} {b : X → (X → Option R) → Option R} {len : Nat} {I : Nat → S → Prop} {Q : Option R → Prop}
    (hstep : ∀ (k : Nat) (s : S) (J : X → Option R), k < len → I k s → ∃ s', I (k + 1) s' ∧ b (enc (k : Int) s) J = J (enc ((k + 1 : Nat) : Int) s')) (hfin : ∀ s J, I len s → Q (b (enc (len : Int) s) J)) {n : Nat} (hn : len < n) {s0 : S} (h0 : I 0 s0) :
    Q (loopN b n (enc (0 : Int) s0)) := by
  have key : ∀ m (k : Nat) (s : S) n, k + m = len → m < n → I k s → Q (loopN b n (enc (k : Int) s)) := by
    intro m
    induction m with
    | zero =>
      intro k s n hk hn hi
      have hk : k = len := by omega
      subst hk
      cases n with
      | zero => omega
      | succ n => rw [loopN_succ]; exact hfin s _ hi
    | succ m ih =>
      intro k s n hk hn hi
      cases n with
      | zero => omega
      | succ n =>
        rw [loopN_succ]
        obtain ⟨s', h1, h2⟩ := hstep k s (loopN b n) (by omega) hi
        rw [h2]
        exact ih (k + 1) s' n (by omega) (by omega) h1
  exact key len 0 s0 n (by omega) hn h0
/-! ### Sums over lists -/
def sumOf {α : Type} (f : α → Nat) : List α → Nat
  | [] => 0
  | a :: l => f a + sumOf f l
theorem sumOf_append {α : Type} (f : α → Nat) : ∀ a b : List α, sumOf f (a ++ b) = sumOf f a + sumOf f b
  | [], b => by simp [sumOf]
  | x :: a, b => by simp only [List.cons_append, sumOf, sumOf_append f a b]; omega
theorem sumOf_take_succ {α : Type} {f : α → Nat} {l : List α} {k : Nat} {d : α} (h : k < l.length) : sumOf f (l.take (k + 1)) = sumOf f (l.take k) + f (l.getD k d) := by
  rw [take_succ_getD (d := d) h, sumOf_append]
  simp [sumOf]
theorem sumOf_take_le {α : Type} (f : α → Nat) (l : List α) (k : Nat) : sumOf f (l.take k) ≤ sumOf f l := by
  have := sumOf_append f (l.take k) (l.drop k)
  rw [List.take_append_drop] at this
  omega
theorem sumOf_mem {α : Type} {f : α → Nat} {l : List α} {k : Nat} {d : α} (h : k < l.length) : f (l.getD k d) ≤ sumOf f l := by
  have h1 := sumOf_take_succ (f := f) (d := d) h
  have h2 := sumOf_take_le f l (k + 1)
  omega
theorem sumOf_lin {α : Type} {f g : α → Nat} {c s : Nat} (h : ∀ y, f y ≤ c * g y + s) : ∀ l : List α, sumOf f l ≤ c * sumOf g l + s * l.length
  | [] => by simp [sumOf]
  | a :: l => by
    have h1 := h a
    have h2 := sumOf_lin h l
    simp only [sumOf, List.length_cons, Nat.mul_add, Nat.mul_succ]
    omega
theorem sumOf_const {α : Type} (c : Nat) : ∀ l : List α, sumOf (fun _ => c) l = c * l.length
  | [] => by simp [sumOf]
  | a :: l => by simp only [sumOf, sumOf_const c l, List.length_cons, Nat.mul_succ]; omega
theorem getD_set {α : Type} {l : List α} {k : Nat} {x d : α} (h : k < l.length) : (l.set k x).getD k d = x := by simp [List.getD, h]
theorem getD_set_ne {α : Type} {l : List α} {k j : Nat} {x d : α} (h : j ≠ k) : (l.set k x).getD j d = l.getD j d := by simp [List.getD, List.getElem?_set, Ne.symm h]
theorem getD_mem {α : Type} {l : List α} {k : Nat} {d : α} (h : k < l.length) : l.getD k d ∈ l := by rw [getD_eq h]; exact List.getElem_mem h
theorem take_drop_set {α : Type} {a : List α} {d : α} {m k : Nat} {x : α} (h : k < a.length) (hm : m = a.length) (hx : x = a.getD k d) : (a.take k ++ (List.replicate m d).drop k).set k x = a.take (k + 1) ++ (List.replicate m d).drop (k + 1) := by
  subst hx
  exact set_take h hm
/-! ### The first that is so -/
def idxOf (p : Nat → Bool) (m : Nat) : Int := match (List.range m).find? p with
  | some k => (k : Int)
  | none => -1
theorem find_range_none {p : Nat → Bool} {m : Nat} (h : ∀ j, j < m → p j = false) : (List.range m).find? p = none := by
  rw [List.find?_eq_none]
  intro x hx
  rw [h x (List.mem_range.1 hx)]
  simp
theorem find_range_some {p : Nat → Bool} {m k : Nat} (hk : k < m) (hp : p k = true) (h : ∀ j, j < k → p j = false) : (List.range m).find? p = some k := by
  have e : m = k + (m - k) := by omega
  rw [e, List.range_add, List.find?_append, find_range_none h, Option.none_or]
  obtain ⟨r, hr⟩ : ∃ r, m - k = r + 1 := ⟨m - k - 1, by omega⟩
  rw [hr, List.range_succ_eq_map]
  simp [hp]
theorem idxOf_ge (p : Nat → Bool) (m : Nat) : decide (idxOf p m ≥ 0) = (List.range m).any p := by
  unfold idxOf
  cases h : (List.range m).find? p with
  | none =>
    rw [List.find?_eq_none] at h
    rw [show (List.range m).any p = false from by rw [List.any_eq_false]; exact h]
    rfl
  | some k =>
    have h1 := List.find?_some h
    rw [show (List.range m).any p = true from List.any_eq_true.2 ⟨k, List.mem_of_find?_eq_some h, h1⟩]
    exact decide_eq_true (by show (0 : Int) ≤ (k : Int); omega)
theorem idxOf_lt (p : Nat → Bool) (m : Nat) : decide (idxOf p m < 0) = !(List.range m).any p := by
  rw [← idxOf_ge]
  by_cases h : idxOf p m < 0
  · rw [decide_eq_true h, decide_eq_false (by omega)]; rfl
  · rw [decide_eq_false h, decide_eq_true (by omega)]; rfl
theorem find_range (p : Nat → Bool) : ∀ m, ((List.range m).find? p = none ∧ ∀ j, j < m → p j = false) ∨ ∃ k, (List.range m).find? p = some k ∧ k < m ∧ p k = true ∧ ∀ j, j < k → p j = false
  | 0 => .inl ⟨rfl, fun j hj => absurd hj (Nat.not_lt_zero _)⟩
  | m + 1 => by
    rcases find_range p m with ⟨h1, h2⟩ | ⟨k, h1, h2, h3, h4⟩
    · cases hp : p m with
      | true => exact .inr ⟨m, find_range_some (by omega) hp h2, by omega, hp, h2⟩
      | false =>
        have : ∀ j, j < m + 1 → p j = false := fun j hj => by
          by_cases e : j = m
          · rw [e]; exact hp
          · exact h2 j (by omega)
        exact .inl ⟨find_range_none this, this⟩
    · exact .inr ⟨k, find_range_some (by omega) h3 h4, by omega, h3, h4⟩
theorem idxOf_spec (p : Nat → Bool) (m : Nat) : (idxOf p m = -1 ∧ ∀ j, j < m → p j = false) ∨ ∃ k : Nat, idxOf p m = (k : Int) ∧ k < m ∧ p k = true ∧ ∀ j, j < k → p j = false := by
  unfold idxOf
  rcases find_range p m with ⟨h1, h2⟩ | ⟨k, h1, h2, h3, h4⟩
  · rw [h1]; exact .inl ⟨rfl, h2⟩
  · rw [h1]; exact .inr ⟨k, rfl, h2, h3, h4⟩
/-- A loop that looks at k = 0, 1, .. and leaves at the first that is so. -/
theorem loop_find {R : Type} {b : Int → (Int → Option R) → Option R} {len : Nat} {p : Nat → Bool} {yes : Nat → Option R} {no : Option R} (hlen : len ≤ 9223372036854775807)
    (hstep : ∀ (k : Nat) (J : Int → Option R), k < len → (∀ j, j < k → p j = false) → b (k : Int) J = bif p k then yes k else J ((k + 1 : Nat) : Int)) (hfin : ∀ J, (∀ j, j < len → p j = false) → b (len : Int) J = no) {n : Nat} (hn : len < n) :
    loopN b n (0 : Int) = match (List.range len).find? p with | some k => yes k | none => no := by
  refine loopN_ind (fun x => len - x.toNat) (fun x => ∃ k : Nat, k ≤ len ∧ x = (k : Int) ∧ ∀ j, j < k → p j = false) (fun x r => r = match (List.range len).find? p with | some k => yes k | none => no) ?_ n _ ⟨0, by omega, rfl, fun j hj => absurd hj (Nat.not_lt_zero _)⟩ (by simp; omega)
  rintro _ J ⟨k, hk, rfl, hb⟩ ih
  by_cases h : k < len
  · rw [hstep k J h hb]
    cases hp : p k with
    | false => exact ih _ ⟨k + 1, h, rfl, fun j hj => by
        by_cases e : j = k
        · rw [e]; exact hp
        · exact hb j (by omega)⟩ (by simp; omega)
    | true => rw [find_range_some h hp hb]; rfl
  · have : k = len := by omega
    subst this
    rw [hfin _ hb, find_range_none hb]
theorem loop_idx {b : Int → (Int → Option Int) → Option Int} {len : Nat} {p : Nat → Bool} (hlen : len ≤ 9223372036854775807)
    (hstep : ∀ (k : Nat) (J : Int → Option Int), k < len → (∀ j, j < k → p j = false) → b (k : Int) J = bif p k then some (k : Int) else J ((k + 1 : Nat) : Int)) (hfin : ∀ J, (∀ j, j < len → p j = false) → b (len : Int) J = some (-1)) {n : Nat} (hn : len < n) :
    loopN b n (0 : Int) = some (idxOf p len) := by
  rw [loop_find (yes := fun k => some (k : Int)) (no := some (-1)) hlen hstep hfin hn]
  unfold idxOf
  cases (List.range len).find? p <;> rfl
theorem byteAt_rng (s : ByteArray) (k : Nat) : 0 ≤ byteAt s k ∧ byteAt s k ≤ 255 := by
  unfold byteAt
  have := (s.data.getD k 0).toNat_lt
  omega
theorem range_any {α : Type} {l : List α} {d : α} {f : α → Bool} : (List.range l.length).any (fun k => f (l.getD k d)) = l.any f := by
  induction l with
  | nil => rfl
  | cons a l ih =>
    rw [List.length_cons, List.range_succ_eq_map, List.any_cons, List.any_map, List.any_cons, ← ih]
    rfl
theorem range_all {α : Type} {l : List α} {d : α} {f : α → Bool} : (List.range l.length).all (fun k => f (l.getD k d)) = l.all f := by
  induction l with
  | nil => rfl
  | cons a l ih =>
    rw [List.length_cons, List.range_succ_eq_map, List.all_cons, List.all_map, List.all_cons, ← ih]
    rfl
theorem all_congr_lt {p q : Nat → Bool} {m : Nat} (h : ∀ k, k < m → p k = q k) : (List.range m).all p = (List.range m).all q := by
  rw [Bool.eq_iff_iff, List.all_eq_true, List.all_eq_true]
  constructor
  · intro g x hx; rw [← h x (List.mem_range.1 hx)]; exact g x hx
  · intro g x hx; rw [h x (List.mem_range.1 hx)]; exact g x hx
theorem any_congr_lt {p q : Nat → Bool} {m : Nat} (h : ∀ k, k < m → p k = q k) : (List.range m).any p = (List.range m).any q := by
  rw [Bool.eq_iff_iff, List.any_eq_true, List.any_eq_true]
  constructor
  · rintro ⟨x, hx, g⟩; exact ⟨x, hx, by rw [← h x (List.mem_range.1 hx)]; exact g⟩
  · rintro ⟨x, hx, g⟩; exact ⟨x, hx, by rw [h x (List.mem_range.1 hx)]; exact g⟩
theorem guard_sz {w : Nat} {x : Option Bool} (h : w ≤ 1048576 → x = some true) : (bif decide ((if (w : Int) ≤ 1048576 then 1048576 - (w : Int) else -1) < 0) then some true else x) = some true := by
  by_cases c : (w : Int) ≤ 1048576
  · rw [if_pos c, decide_eq_false (by omega), cond_false]
    exact h (by omega)
  · rw [if_neg c]
    rfl
end Go.Sm
end

section
set_option linter.unusedSimpArgs false
set_option linter.deprecated false
set_option linter.unusedSectionVars false
set_option linter.unusedVariables false
set_option linter.unusedSimpArgs false
namespace Go.Sm
attribute [local irreducible] bd chk ix loopN
theorem laws_markText_ok {n : Nat} (k : Int) (hk : k ≤ 1000000000) (hn : 1000000000 < n) : ∃ t, laws_markText n k = some t := by
  unfold laws_markText
  rw [bif_dec]
  split
  · exact ⟨_, rfl⟩
  · refine loopN_ind (fun x => x.1.toNat) (fun x => 0 ≤ x.1 ∧ x.1 + (x.2.size : Int) ≤ 1000000000) (fun x r => ∃ t, r = some t) ?_ n _ ⟨by omega, by show k + ((str []).size : Int) ≤ _; simp [str, ByteArray.size]; omega⟩ (by simp; omega)
    rintro ⟨k, out⟩ J ⟨h0, h1⟩ ih
    unfold laws_markText_L4
    dsimp only at h0 h1 ⊢
    have e1 : ∀ l : List Int, (bstr l).size = l.length := fun l => by simp [bstr, ByteArray.size]
    have e2 : (str [109]).size = 1 := rfl
    have e3 : k.tdiv 10 = k / 10 := Int.tdiv_eq_ediv_of_nonneg h0
    simp only [bd_eq]
    rw [bif_dec, e3]
    split
    · rw [e1, chk_dec (by simp; omega), w64_id (x := k / 10) (by omega) (by omega)]
      refine ih _ ⟨by dsimp only; omega, ?_⟩ (by dsimp only; omega)
      rw [ByteArray.size_append, e1]
      simp
      omega
    · rw [e2, chk_dec (by omega)]
      exact ⟨_, rfl⟩
theorem laws_markText_q {β : Type} {Q : Option β → Prop} {n : Nat} {k : Int} {F : ByteArray → Option β} (hk : k ≤ 1000000000) (hn : 1000000000 < n) (h : ∀ t, laws_markText n k = some t → Q (F t)) : Q ((laws_markText n k).bind F) := by
  obtain ⟨t, ht⟩ := laws_markText_ok (n := n) k hk hn
  rw [ht]
  exact h t ht
def w_LBA (a : List ByteArray) : Nat := a.length + sumOf (fun y => y.size) a
theorem laws_eqStringS_ok {n : Nat} (a : List ByteArray) (hb : w_LBA a ≤ 100000000) (hn : 1000000000 < n) : laws_eqStringS n a a = some true := by
  have hw0 : a.length ≤ 100000000 := by have hw : w_LBA a = a.length + sumOf (fun y => y.size) a := rfl; omega
  unfold laws_eqStringS
  simp only [decide_true, Bool.not_true, cond_false]
  refine loopN_ind (fun x => a.length - x.toNat) (fun x => ∃ k : Nat, k ≤ a.length ∧ x = (k : Int)) (fun x r => r = some true) ?_ n _ ⟨0, by omega, rfl⟩ (by simp; omega)
  rintro _ J ⟨k, hk, rfl⟩ ih
  unfold laws_eqStringS_L4
  by_cases h : k < a.length
  · have g := ih ((k + 1 : Nat) : Int) ⟨k + 1, h, rfl⟩ (by simp; omega)
    have s1 := sumOf_mem (f := fun y => y.size) (d := (str [])) h
    have hw : w_LBA a = a.length + sumOf (fun y => y.size) a := rfl
    try simp only at s1
    simp only [Int.ofNat_lt, h, decide_true, cond_true, ix_nat h, Bool.not_true, cond_false, bd_eq, Option.bind_some, beq_self_eq_true, Int.toNat_natCast, w64_succ (show k < 9223372036854775807 by omega)]
    exact g
  · simp [h]
def w_LLBA (a : List (List ByteArray)) : Nat := a.length + sumOf (fun y => w_LBA y) a
theorem laws_eqStringSS_ok {n : Nat} (a : List (List ByteArray)) (hb : w_LLBA a ≤ 100000000) (hn : 1000000000 < n) : laws_eqStringSS n a a = some true := by
  have hw0 : a.length ≤ 100000000 := by have hw : w_LLBA a = a.length + sumOf (fun y => w_LBA y) a := rfl; omega
  unfold laws_eqStringSS
  simp only [decide_true, Bool.not_true, cond_false]
  refine loopN_ind (fun x => a.length - x.toNat) (fun x => ∃ k : Nat, k ≤ a.length ∧ x = (k : Int)) (fun x r => r = some true) ?_ n _ ⟨0, by omega, rfl⟩ (by simp; omega)
  rintro _ J ⟨k, hk, rfl⟩ ih
  unfold laws_eqStringSS_L4
  by_cases h : k < a.length
  · have g := ih ((k + 1 : Nat) : Int) ⟨k + 1, h, rfl⟩ (by simp; omega)
    have s1 := sumOf_mem (f := fun y => w_LBA y) (d := []) h
    have hw : w_LLBA a = a.length + sumOf (fun y => w_LBA y) a := rfl
    try simp only at s1
    simp only [Int.ofNat_lt, h, decide_true, cond_true, ix_nat h, Bool.not_true, cond_false, bd_eq, Option.bind_some, beq_self_eq_true, Int.toNat_natCast, w64_succ (show k < 9223372036854775807 by omega), laws_eqStringS_ok (n := n) (a.getD k []) (by omega) hn]
    exact g
  · simp [h]
def w_SSeg (a : SSeg) : Nat := a.Tag.size + w_LLBA a.Parts
theorem laws_eqSeg_ok {n : Nat} (a : SSeg) (h : w_SSeg a ≤ 100000000) (hn : 1000000000 < n) : laws_eqSeg n a a = some true := by
  have hw : w_SSeg a = a.Tag.size + w_LLBA a.Parts := rfl
  simp [laws_eqSeg, laws_eqStringSS_ok (n := n) a.Parts (by omega) hn]
def w_LSSeg (a : List SSeg) : Nat := a.length + sumOf (fun y => w_SSeg y) a
theorem laws_eqSegS_ok {n : Nat} (a : List SSeg) (hb : w_LSSeg a ≤ 100000000) (hn : 1000000000 < n) : laws_eqSegS n a a = some true := by
  have hw0 : a.length ≤ 100000000 := by have hw : w_LSSeg a = a.length + sumOf (fun y => w_SSeg y) a := rfl; omega
  unfold laws_eqSegS
  simp only [decide_true, Bool.not_true, cond_false]
  refine loopN_ind (fun x => a.length - x.toNat) (fun x => ∃ k : Nat, k ≤ a.length ∧ x = (k : Int)) (fun x r => r = some true) ?_ n _ ⟨0, by omega, rfl⟩ (by simp; omega)
  rintro _ J ⟨k, hk, rfl⟩ ih
  unfold laws_eqSegS_L4
  by_cases h : k < a.length
  · have g := ih ((k + 1 : Nat) : Int) ⟨k + 1, h, rfl⟩ (by simp; omega)
    have s1 := sumOf_mem (f := fun y => w_SSeg y) (d := dSSeg) h
    have hw : w_LSSeg a = a.length + sumOf (fun y => w_SSeg y) a := rfl
    try simp only at s1
    simp only [Int.ofNat_lt, h, decide_true, cond_true, ix_nat h, Bool.not_true, cond_false, bd_eq, Option.bind_some, beq_self_eq_true, Int.toNat_natCast, w64_succ (show k < 9223372036854775807 by omega), laws_eqSeg_ok (n := n) (a.getD k dSSeg) (by omega) hn]
    exact g
  · simp [h]
def Mk_LBA (n : Nat) (k : Int) (a x : ByteArray) : Prop := laws_markText n (k) = some x
def n_LBA (a : List ByteArray) : Nat := sumOf (fun y => 1) a
theorem n_LBA_eq (a : List ByteArray) : n_LBA a = 1 * a.length := sumOf_const 1 a
theorem n_LBA_le (a : List ByteArray) : n_LBA a ≤ 1 * w_LBA a := by
  have h := n_LBA_eq a
  have h2 : w_LBA a = a.length + sumOf (fun y : ByteArray => y.size) a := rfl
  omega
theorem laws_markStringS_i {n : Nat} (a : List ByteArray) (k0 : Int) (hk0 : 0 ≤ k0) (hb : k0 + ((n_LBA a : Nat) : Int) ≤ 900000000) (hw : w_LBA a ≤ 100000000) (hn : 1000000000 < n) :
    ∃ p : List ByteArray, laws_markStringS n a k0 = some (k0 + ((n_LBA a : Nat) : Int), p) ∧ p.length = a.length ∧ ∀ i, i < a.length → Mk_LBA n (k0 + ((sumOf (fun y => 1) (a.take i) : Nat) : Int)) (a.getD i (str [])) (p.getD i (str [])) := by
  have hw0 : a.length ≤ 100000000 := by have hw : w_LBA a = a.length + sumOf (fun y => y.size) a := rfl; omega
  have hnA : n_LBA a = sumOf (fun y => 1) a := rfl
  unfold laws_markStringS
  refine loopN_ind (fun x => a.length - x.2.1.toNat) (fun x => ∃ (k : Nat) (p : List ByteArray), k ≤ a.length ∧ x = (k0 + ((sumOf (fun y => 1) (a.take k) : Nat) : Int), (k : Int), p) ∧ p.length = a.length ∧
      (∀ i, i < k → Mk_LBA n (k0 + ((sumOf (fun y => 1) (a.take i) : Nat) : Int)) (a.getD i (str [])) (p.getD i (str []))) ∧ ∀ i, k ≤ i → p.getD i (str []) = a.getD i (str []))
    (fun x r => ∃ p : List ByteArray, r = some (k0 + ((n_LBA a : Nat) : Int), p) ∧ p.length = a.length ∧ ∀ i, i < a.length → Mk_LBA n (k0 + ((sumOf (fun y => 1) (a.take i) : Nat) : Int)) (a.getD i (str [])) (p.getD i (str []))) ?_ n _ ⟨0, a, by omega, by simp [sumOf], rfl, by omega, fun _ _ => rfl⟩ (by simp; omega)
  rintro _ J ⟨k, p, hk, rfl, hp, hm, hrest⟩ ih
  by_cases h : k < a.length
  · have h' : k < p.length := by omega
    have s1 := sumOf_take_succ (f := fun y => 1) (d := (str [])) h
    have s2 := sumOf_take_le (fun y => 1) a (k + 1)
    try simp only at s1
    obtain ⟨kk, hkk⟩ : ∃ kk : Int, kk = k0 + ((sumOf (fun y => 1) (a.take k) : Nat) : Int) := ⟨_, rfl⟩
    have hpk := hrest k (Nat.le_refl _)
    have s3 := sumOf_mem (f := fun y => y.size) (d := (str [])) h
    have hwx : w_LBA a = a.length + sumOf (fun y => y.size) a := rfl
    try simp only at s3

    obtain ⟨t0, ht0⟩ := laws_markText_ok (n := n) (kk) (by omega) hn
    have step : ∀ (K : Int → List ByteArray → Option (Int × List ByteArray)) (J : Int → Int → List ByteArray → Option (Int × List ByteArray)), laws_markStringS_L2 n K J kk (k : Int) p = J (kk + 1) ((k : Int) + 1) (p.set k (t0)) := fun K J => by
      unfold laws_markStringS_L2
      simp (disch := omega) only [Int.ofNat_lt, h', decide_true, cond_true, ix_nat h', List.length_set, chk_of, chk_true, bd_eq, getD_set h', List.set_set, hpk, Int.toNat_natCast, w64_id, Int.add_assoc, Int.reduceAdd, Option.bind_some, ht0]
    dsimp only
    rw [← hkk]
    refine (congrArg (fun z => ∃ q : List ByteArray, z = some (k0 + ((n_LBA a : Nat) : Int), q) ∧ q.length = a.length ∧ ∀ i, i < a.length → Mk_LBA n (k0 + ((sumOf (fun y => 1) (a.take i) : Nat) : Int)) (a.getD i (str [])) (q.getD i (str []))) (step _ _)).mpr ?_
    refine ih _ ⟨k + 1, _, h, Prod.ext (by dsimp only; omega) (Prod.ext (by dsimp only; omega) rfl), by simpa using hp, fun i hi => ?_, fun i hi => ?_⟩ (by dsimp only; omega)
    · by_cases e : i = k
      · subst e
        rw [getD_set h', ← hkk]
        unfold Mk_LBA
        exact ht0
      · rw [getD_set_ne e]
        exact hm i (by omega)
    · rw [getD_set_ne (by omega)]
      exact hrest i (by omega)
  · have : k = a.length := by omega
    subst this
    unfold laws_markStringS_L2
    simp only [hp, Int.lt_irrefl, decide_false, cond_false]
    rw [List.take_length]
    exact ⟨p, rfl, hp, hm⟩
theorem laws_heldStringS_i {n : Nat} (a p : List ByteArray) (hp : p.length = a.length) (k0 : Int) (hk0 : 0 ≤ k0) (hb : k0 + ((n_LBA a : Nat) : Int) ≤ 900000000) (hw : w_LBA a ≤ 100000000) (hn : 1000000000 < n)
    (hm : ∀ i, i < a.length → Mk_LBA n (k0 + ((sumOf (fun y => 1) (a.take i) : Nat) : Int)) (a.getD i (str [])) (p.getD i (str []))) : laws_heldStringS n p k0 = some (k0 + ((n_LBA a : Nat) : Int)) := by
  have hw0 : a.length ≤ 100000000 := by have hw : w_LBA a = a.length + sumOf (fun y => y.size) a := rfl; omega
  have hnA : n_LBA a = sumOf (fun y => 1) a := rfl
  unfold laws_heldStringS
  refine loopN_ind (fun x => a.length - x.2.toNat) (fun x => ∃ (k : Nat), k ≤ a.length ∧ x = (k0 + ((sumOf (fun y => 1) (a.take k) : Nat) : Int), (k : Int)))
    (fun x r => r = some (k0 + ((n_LBA a : Nat) : Int))) ?_ n _ ⟨0, by omega, by simp [sumOf]⟩ (by simp; omega)
  rintro _ J ⟨k, hk, rfl⟩ ih
  by_cases h : k < a.length
  · have h' : k < p.length := by omega
    have s1 := sumOf_take_succ (f := fun y => 1) (d := (str [])) h
    have s2 := sumOf_take_le (fun y => 1) a (k + 1)
    try simp only at s1
    have hmk := hm k h
    unfold Mk_LBA at hmk
    obtain ⟨kk, hkk⟩ : ∃ kk : Int, kk = k0 + ((sumOf (fun y => 1) (a.take k) : Nat) : Int) := ⟨_, rfl⟩
    rw [← hkk] at hmk
    try simp (disch := omega) only [Int.add_assoc, Int.reduceAdd] at hmk
    have e0 := hmk
    have step : ∀ (K K2 : Int → Option Int) (J : Int → Int → Option Int), laws_heldStringS_L2 n K K2 J p kk (k : Int) = J (kk + 1) ((k : Int) + 1) := fun K K2 J => by
      unfold laws_heldStringS_L2
      simp (disch := omega) only [Int.ofNat_lt, h', decide_true, cond_true, ix_nat h', bd_eq, Int.toNat_natCast, w64_id, Int.add_assoc, Int.reduceAdd, Option.bind_some, Bool.not_true, cond_false, beq_self_eq_true, decide_eq_false_iff_not, Int.not_lt, bif_dec, if_neg, e0]
    dsimp only
    rw [← hkk]
    refine (step _ _ _).trans ?_
    exact ih (_, _) ⟨k + 1, h, Prod.ext (by dsimp only; omega) (by dsimp only; omega)⟩ (by dsimp only; omega)
  · have : k = a.length := by omega
    subst this
    unfold laws_heldStringS_L2
    simp only [hp, Int.lt_irrefl, decide_false, cond_false]
    rw [List.take_length]
    rfl
theorem laws_markStringS_ok {n : Nat} (a : List ByteArray) (k0 : Int) (hk0 : 0 ≤ k0) (hb : k0 + ((n_LBA a : Nat) : Int) ≤ 900000000) (hw : w_LBA a ≤ 100000000) (hn : 1000000000 < n) : ∃ p : List ByteArray, laws_markStringS n a k0 = some (k0 + ((n_LBA a : Nat) : Int), p) ∧ laws_heldStringS n p k0 = some (k0 + ((n_LBA a : Nat) : Int)) := by
  obtain ⟨p, h1, h2, h3⟩ := laws_markStringS_i (n := n) a k0 hk0 hb hw hn
  exact ⟨p, h1, laws_heldStringS_i a p h2 k0 hk0 hb hw hn h3⟩
def Mk_LLBA (n : Nat) (k : Int) (a x : List ByteArray) : Prop := laws_heldStringS n x (k) = some (k + ((n_LBA a : Nat) : Int))
def n_LLBA (a : List (List ByteArray)) : Nat := sumOf (fun y => n_LBA y) a
theorem n_LLBA_le (a : List (List ByteArray)) : n_LLBA a ≤ 1 * w_LLBA a := by
  have h := sumOf_lin (f := fun y : List ByteArray => n_LBA y) (g := fun y : List ByteArray => w_LBA y) (c := 1) (s := 0) (fun y => by have q0 := n_LBA_le y; show n_LBA y ≤ 1 * (w_LBA y) + 0; omega) a
  have h1 : n_LLBA a = sumOf (fun y : List ByteArray => n_LBA y) a := rfl
  have h2 : w_LLBA a = a.length + sumOf (fun y : List ByteArray => w_LBA y) a := rfl
  omega
theorem laws_markStringSS_i {n : Nat} (a : List (List ByteArray)) (k0 : Int) (hk0 : 0 ≤ k0) (hb : k0 + ((n_LLBA a : Nat) : Int) ≤ 900000000) (hw : w_LLBA a ≤ 100000000) (hn : 1000000000 < n) :
    ∃ p : List (List ByteArray), laws_markStringSS n a k0 = some (k0 + ((n_LLBA a : Nat) : Int), p) ∧ p.length = a.length ∧ ∀ i, i < a.length → Mk_LLBA n (k0 + ((sumOf (fun y => n_LBA y) (a.take i) : Nat) : Int)) (a.getD i []) (p.getD i []) := by
  have hw0 : a.length ≤ 100000000 := by have hw : w_LLBA a = a.length + sumOf (fun y => w_LBA y) a := rfl; omega
  have hnA : n_LLBA a = sumOf (fun y => n_LBA y) a := rfl
  unfold laws_markStringSS
  refine loopN_ind (fun x => a.length - x.2.1.toNat) (fun x => ∃ (k : Nat) (p : List (List ByteArray)), k ≤ a.length ∧ x = (k0 + ((sumOf (fun y => n_LBA y) (a.take k) : Nat) : Int), (k : Int), p) ∧ p.length = a.length ∧
      (∀ i, i < k → Mk_LLBA n (k0 + ((sumOf (fun y => n_LBA y) (a.take i) : Nat) : Int)) (a.getD i []) (p.getD i [])) ∧ ∀ i, k ≤ i → p.getD i [] = a.getD i [])
    (fun x r => ∃ p : List (List ByteArray), r = some (k0 + ((n_LLBA a : Nat) : Int), p) ∧ p.length = a.length ∧ ∀ i, i < a.length → Mk_LLBA n (k0 + ((sumOf (fun y => n_LBA y) (a.take i) : Nat) : Int)) (a.getD i []) (p.getD i [])) ?_ n _ ⟨0, a, by omega, by simp [sumOf], rfl, by omega, fun _ _ => rfl⟩ (by simp; omega)
  rintro _ J ⟨k, p, hk, rfl, hp, hm, hrest⟩ ih
  by_cases h : k < a.length
  · have h' : k < p.length := by omega
    have s1 := sumOf_take_succ (f := fun y => n_LBA y) (d := []) h
    have s2 := sumOf_take_le (fun y => n_LBA y) a (k + 1)
    try simp only at s1
    obtain ⟨kk, hkk⟩ : ∃ kk : Int, kk = k0 + ((sumOf (fun y => n_LBA y) (a.take k) : Nat) : Int) := ⟨_, rfl⟩
    have hpk := hrest k (Nat.le_refl _)
    have s3 := sumOf_mem (f := fun y => w_LBA y) (d := []) h
    have hwx : w_LLBA a = a.length + sumOf (fun y => w_LBA y) a := rfl
    try simp only at s3

    obtain ⟨t0, ht0, hh0⟩ := laws_markStringS_ok (n := n) (a.getD k []) (kk) (by omega) (by omega) (by omega) hn
    have step : ∀ (K : Int → List (List ByteArray) → Option (Int × List (List ByteArray))) (J : Int → Int → List (List ByteArray) → Option (Int × List (List ByteArray))), laws_markStringSS_L2 n K J kk (k : Int) p = J (kk + ((n_LBA (a.getD k []) : Nat) : Int)) ((k : Int) + 1) (p.set k (t0)) := fun K J => by
      unfold laws_markStringSS_L2
      simp (disch := omega) only [laws_markStringSS_k0, Int.ofNat_lt, h', decide_true, cond_true, ix_nat h', List.length_set, chk_of, chk_true, bd_eq, getD_set h', List.set_set, hpk, Int.toNat_natCast, w64_id, Int.add_assoc, Int.reduceAdd, Option.bind_some, ht0]
    dsimp only
    rw [← hkk]
    refine (congrArg (fun z => ∃ q : List (List ByteArray), z = some (k0 + ((n_LLBA a : Nat) : Int), q) ∧ q.length = a.length ∧ ∀ i, i < a.length → Mk_LLBA n (k0 + ((sumOf (fun y => n_LBA y) (a.take i) : Nat) : Int)) (a.getD i []) (q.getD i [])) (step _ _)).mpr ?_
    refine ih _ ⟨k + 1, _, h, Prod.ext (by dsimp only; omega) (Prod.ext (by dsimp only; omega) rfl), by simpa using hp, fun i hi => ?_, fun i hi => ?_⟩ (by dsimp only; omega)
    · by_cases e : i = k
      · subst e
        rw [getD_set h', ← hkk]
        unfold Mk_LLBA
        exact hh0
      · rw [getD_set_ne e]
        exact hm i (by omega)
    · rw [getD_set_ne (by omega)]
      exact hrest i (by omega)
  · have : k = a.length := by omega
    subst this
    unfold laws_markStringSS_L2
    simp only [hp, Int.lt_irrefl, decide_false, cond_false]
    rw [List.take_length]
    exact ⟨p, rfl, hp, hm⟩
theorem laws_heldStringSS_i {n : Nat} (a p : List (List ByteArray)) (hp : p.length = a.length) (k0 : Int) (hk0 : 0 ≤ k0) (hb : k0 + ((n_LLBA a : Nat) : Int) ≤ 900000000) (hw : w_LLBA a ≤ 100000000) (hn : 1000000000 < n)
    (hm : ∀ i, i < a.length → Mk_LLBA n (k0 + ((sumOf (fun y => n_LBA y) (a.take i) : Nat) : Int)) (a.getD i []) (p.getD i [])) : laws_heldStringSS n p k0 = some (k0 + ((n_LLBA a : Nat) : Int)) := by
  have hw0 : a.length ≤ 100000000 := by have hw : w_LLBA a = a.length + sumOf (fun y => w_LBA y) a := rfl; omega
  have hnA : n_LLBA a = sumOf (fun y => n_LBA y) a := rfl
  unfold laws_heldStringSS
  refine loopN_ind (fun x => a.length - x.2.toNat) (fun x => ∃ (k : Nat), k ≤ a.length ∧ x = (k0 + ((sumOf (fun y => n_LBA y) (a.take k) : Nat) : Int), (k : Int)))
    (fun x r => r = some (k0 + ((n_LLBA a : Nat) : Int))) ?_ n _ ⟨0, by omega, by simp [sumOf]⟩ (by simp; omega)
  rintro _ J ⟨k, hk, rfl⟩ ih
  by_cases h : k < a.length
  · have h' : k < p.length := by omega
    have s1 := sumOf_take_succ (f := fun y => n_LBA y) (d := []) h
    have s2 := sumOf_take_le (fun y => n_LBA y) a (k + 1)
    try simp only at s1
    have hmk := hm k h
    unfold Mk_LLBA at hmk
    obtain ⟨kk, hkk⟩ : ∃ kk : Int, kk = k0 + ((sumOf (fun y => n_LBA y) (a.take k) : Nat) : Int) := ⟨_, rfl⟩
    rw [← hkk] at hmk
    try simp (disch := omega) only [Int.add_assoc, Int.reduceAdd] at hmk
    have e0 := hmk
    have step : ∀ (K K2 : Int → Option Int) (J : Int → Int → Option Int), laws_heldStringSS_L2 n K K2 J p kk (k : Int) = J (kk + ((n_LBA (a.getD k []) : Nat) : Int)) ((k : Int) + 1) := fun K K2 J => by
      unfold laws_heldStringSS_L2
      simp (disch := omega) only [Int.ofNat_lt, h', decide_true, cond_true, ix_nat h', bd_eq, Int.toNat_natCast, w64_id, Int.add_assoc, Int.reduceAdd, Option.bind_some, Bool.not_true, cond_false, beq_self_eq_true, decide_eq_false_iff_not, Int.not_lt, bif_dec, if_neg, e0]
    dsimp only
    rw [← hkk]
    refine (step _ _ _).trans ?_
    exact ih (_, _) ⟨k + 1, h, Prod.ext (by dsimp only; omega) (by dsimp only; omega)⟩ (by dsimp only; omega)
  · have : k = a.length := by omega
    subst this
    unfold laws_heldStringSS_L2
    simp only [hp, Int.lt_irrefl, decide_false, cond_false]
    rw [List.take_length]
    rfl
theorem laws_markStringSS_ok {n : Nat} (a : List (List ByteArray)) (k0 : Int) (hk0 : 0 ≤ k0) (hb : k0 + ((n_LLBA a : Nat) : Int) ≤ 900000000) (hw : w_LLBA a ≤ 100000000) (hn : 1000000000 < n) : ∃ p : List (List ByteArray), laws_markStringSS n a k0 = some (k0 + ((n_LLBA a : Nat) : Int), p) ∧ laws_heldStringSS n p k0 = some (k0 + ((n_LLBA a : Nat) : Int)) := by
  obtain ⟨p, h1, h2, h3⟩ := laws_markStringSS_i (n := n) a k0 hk0 hb hw hn
  exact ⟨p, h1, laws_heldStringSS_i a p h2 k0 hk0 hb hw hn h3⟩
def Mk_LSSeg (n : Nat) (k : Int) (a x : SSeg) : Prop := laws_markText n (k) = some x.Tag ∧ laws_heldStringSS n x.Parts (k + 1) = some (k + 1 + ((n_LLBA a.Parts : Nat) : Int))
def n_LSSeg (a : List SSeg) : Nat := sumOf (fun y => 1 + n_LLBA y.Parts) a
theorem n_LSSeg_le (a : List SSeg) : n_LSSeg a ≤ 1 * w_LSSeg a := by
  have h := sumOf_lin (f := fun y : SSeg => 1 + n_LLBA y.Parts) (g := fun y : SSeg => w_SSeg y) (c := 1) (s := 1) (fun y => by have q0 := n_LLBA_le y.Parts; have hw : w_SSeg y = y.Tag.size + w_LLBA y.Parts := rfl; show 1 + n_LLBA y.Parts ≤ 1 * (w_SSeg y) + 1; omega) a
  have h1 : n_LSSeg a = sumOf (fun y : SSeg => 1 + n_LLBA y.Parts) a := rfl
  have h2 : w_LSSeg a = a.length + sumOf (fun y : SSeg => w_SSeg y) a := rfl
  omega
theorem laws_markSegS_i {n : Nat} (a : List SSeg) (k0 : Int) (hk0 : 0 ≤ k0) (hb : k0 + ((n_LSSeg a : Nat) : Int) ≤ 900000000) (hw : w_LSSeg a ≤ 100000000) (hn : 1000000000 < n) :
    ∃ p : List SSeg, laws_markSegS n a k0 = some (k0 + ((n_LSSeg a : Nat) : Int), p) ∧ p.length = a.length ∧ ∀ i, i < a.length → Mk_LSSeg n (k0 + ((sumOf (fun y => 1 + n_LLBA y.Parts) (a.take i) : Nat) : Int)) (a.getD i dSSeg) (p.getD i dSSeg) := by
  have hw0 : a.length ≤ 100000000 := by have hw : w_LSSeg a = a.length + sumOf (fun y => w_SSeg y) a := rfl; omega
  have hnA : n_LSSeg a = sumOf (fun y => 1 + n_LLBA y.Parts) a := rfl
  unfold laws_markSegS
  refine loopN_ind (fun x => a.length - x.2.1.toNat) (fun x => ∃ (k : Nat) (p : List SSeg), k ≤ a.length ∧ x = (k0 + ((sumOf (fun y => 1 + n_LLBA y.Parts) (a.take k) : Nat) : Int), (k : Int), p) ∧ p.length = a.length ∧
      (∀ i, i < k → Mk_LSSeg n (k0 + ((sumOf (fun y => 1 + n_LLBA y.Parts) (a.take i) : Nat) : Int)) (a.getD i dSSeg) (p.getD i dSSeg)) ∧ ∀ i, k ≤ i → p.getD i dSSeg = a.getD i dSSeg)
    (fun x r => ∃ p : List SSeg, r = some (k0 + ((n_LSSeg a : Nat) : Int), p) ∧ p.length = a.length ∧ ∀ i, i < a.length → Mk_LSSeg n (k0 + ((sumOf (fun y => 1 + n_LLBA y.Parts) (a.take i) : Nat) : Int)) (a.getD i dSSeg) (p.getD i dSSeg)) ?_ n _ ⟨0, a, by omega, by simp [sumOf], rfl, by omega, fun _ _ => rfl⟩ (by simp; omega)
  rintro _ J ⟨k, p, hk, rfl, hp, hm, hrest⟩ ih
  by_cases h : k < a.length
  · have h' : k < p.length := by omega
    have s1 := sumOf_take_succ (f := fun y => 1 + n_LLBA y.Parts) (d := dSSeg) h
    have s2 := sumOf_take_le (fun y => 1 + n_LLBA y.Parts) a (k + 1)
    try simp only at s1
    obtain ⟨kk, hkk⟩ : ∃ kk : Int, kk = k0 + ((sumOf (fun y => 1 + n_LLBA y.Parts) (a.take k) : Nat) : Int) := ⟨_, rfl⟩
    have hpk := hrest k (Nat.le_refl _)
    have s3 := sumOf_mem (f := fun y => w_SSeg y) (d := dSSeg) h
    have hwx : w_LSSeg a = a.length + sumOf (fun y => w_SSeg y) a := rfl
    try simp only at s3
    have hwy : w_SSeg (a.getD k dSSeg) = ((a.getD k dSSeg).Tag).size + w_LLBA ((a.getD k dSSeg).Parts) := rfl
    obtain ⟨t0, ht0⟩ := laws_markText_ok (n := n) (kk) (by omega) hn
    obtain ⟨t1, ht1, hh1⟩ := laws_markStringSS_ok (n := n) (a.getD k dSSeg).Parts (kk + 1) (by omega) (by omega) (by omega) hn
    have step : ∀ (K : Int → List SSeg → Option (Int × List SSeg)) (J : Int → Int → List SSeg → Option (Int × List SSeg)), laws_markSegS_L2 n K J kk (k : Int) p = J (kk + 1 + ((n_LLBA ((a.getD k dSSeg).Parts) : Nat) : Int)) ((k : Int) + 1) (p.set k (⟨(t0), (t1)⟩ : SSeg)) := fun K J => by
      unfold laws_markSegS_L2
      simp (disch := omega) only [laws_markSegS_k0, Int.ofNat_lt, h', decide_true, cond_true, ix_nat h', List.length_set, chk_of, chk_true, bd_eq, getD_set h', List.set_set, hpk, Int.toNat_natCast, w64_id, Int.add_assoc, Int.reduceAdd, Option.bind_some, ht0, ht1]
    dsimp only
    rw [← hkk]
    refine (congrArg (fun z => ∃ q : List SSeg, z = some (k0 + ((n_LSSeg a : Nat) : Int), q) ∧ q.length = a.length ∧ ∀ i, i < a.length → Mk_LSSeg n (k0 + ((sumOf (fun y => 1 + n_LLBA y.Parts) (a.take i) : Nat) : Int)) (a.getD i dSSeg) (q.getD i dSSeg)) (step _ _)).mpr ?_
    refine ih _ ⟨k + 1, _, h, Prod.ext (by dsimp only; omega) (Prod.ext (by dsimp only; omega) rfl), by simpa using hp, fun i hi => ?_, fun i hi => ?_⟩ (by dsimp only; omega)
    · by_cases e : i = k
      · subst e
        rw [getD_set h', ← hkk]
        unfold Mk_LSSeg
        exact ⟨ht0, hh1⟩
      · rw [getD_set_ne e]
        exact hm i (by omega)
    · rw [getD_set_ne (by omega)]
      exact hrest i (by omega)
  · have : k = a.length := by omega
    subst this
    unfold laws_markSegS_L2
    simp only [hp, Int.lt_irrefl, decide_false, cond_false]
    rw [List.take_length]
    exact ⟨p, rfl, hp, hm⟩
theorem laws_heldSegS_i {n : Nat} (a p : List SSeg) (hp : p.length = a.length) (k0 : Int) (hk0 : 0 ≤ k0) (hb : k0 + ((n_LSSeg a : Nat) : Int) ≤ 900000000) (hw : w_LSSeg a ≤ 100000000) (hn : 1000000000 < n)
    (hm : ∀ i, i < a.length → Mk_LSSeg n (k0 + ((sumOf (fun y => 1 + n_LLBA y.Parts) (a.take i) : Nat) : Int)) (a.getD i dSSeg) (p.getD i dSSeg)) : laws_heldSegS n p k0 = some (k0 + ((n_LSSeg a : Nat) : Int)) := by
  have hw0 : a.length ≤ 100000000 := by have hw : w_LSSeg a = a.length + sumOf (fun y => w_SSeg y) a := rfl; omega
  have hnA : n_LSSeg a = sumOf (fun y => 1 + n_LLBA y.Parts) a := rfl
  unfold laws_heldSegS
  refine loopN_ind (fun x => a.length - x.2.toNat) (fun x => ∃ (k : Nat), k ≤ a.length ∧ x = (k0 + ((sumOf (fun y => 1 + n_LLBA y.Parts) (a.take k) : Nat) : Int), (k : Int)))
    (fun x r => r = some (k0 + ((n_LSSeg a : Nat) : Int))) ?_ n _ ⟨0, by omega, by simp [sumOf]⟩ (by simp; omega)
  rintro _ J ⟨k, hk, rfl⟩ ih
  by_cases h : k < a.length
  · have h' : k < p.length := by omega
    have s1 := sumOf_take_succ (f := fun y => 1 + n_LLBA y.Parts) (d := dSSeg) h
    have s2 := sumOf_take_le (fun y => 1 + n_LLBA y.Parts) a (k + 1)
    try simp only at s1
    have hmk := hm k h
    unfold Mk_LSSeg at hmk
    obtain ⟨kk, hkk⟩ : ∃ kk : Int, kk = k0 + ((sumOf (fun y => 1 + n_LLBA y.Parts) (a.take k) : Nat) : Int) := ⟨_, rfl⟩
    rw [← hkk] at hmk
    try simp (disch := omega) only [Int.add_assoc, Int.reduceAdd] at hmk
    obtain ⟨e0, e1⟩ := hmk
    have step : ∀ (K K2 : Int → Option Int) (J : Int → Int → Option Int), laws_heldSegS_L2 n K K2 J p kk (k : Int) = J (kk + 1 + ((n_LLBA ((a.getD k dSSeg).Parts) : Nat) : Int)) ((k : Int) + 1) := fun K K2 J => by
      unfold laws_heldSegS_L2
      simp (disch := omega) only [laws_heldSegS_k0, Int.ofNat_lt, h', decide_true, cond_true, ix_nat h', bd_eq, Int.toNat_natCast, w64_id, Int.add_assoc, Int.reduceAdd, Option.bind_some, Bool.not_true, cond_false, beq_self_eq_true, decide_eq_false_iff_not, Int.not_lt, bif_dec, if_neg, e0, e1]
    dsimp only
    rw [← hkk]
    refine (step _ _ _).trans ?_
    exact ih (_, _) ⟨k + 1, h, Prod.ext (by dsimp only; omega) (by dsimp only; omega)⟩ (by dsimp only; omega)
  · have : k = a.length := by omega
    subst this
    unfold laws_heldSegS_L2
    simp only [hp, Int.lt_irrefl, decide_false, cond_false]
    rw [List.take_length]
    rfl
theorem laws_markSegS_ok {n : Nat} (a : List SSeg) (k0 : Int) (hk0 : 0 ≤ k0) (hb : k0 + ((n_LSSeg a : Nat) : Int) ≤ 900000000) (hw : w_LSSeg a ≤ 100000000) (hn : 1000000000 < n) : ∃ p : List SSeg, laws_markSegS n a k0 = some (k0 + ((n_LSSeg a : Nat) : Int), p) ∧ laws_heldSegS n p k0 = some (k0 + ((n_LSSeg a : Nat) : Int)) := by
  obtain ⟨p, h1, h2, h3⟩ := laws_markSegS_i (n := n) a k0 hk0 hb hw hn
  exact ⟨p, h1, laws_heldSegS_i a p h2 k0 hk0 hb hw hn h3⟩
end Go.Sm
end

section
set_option linter.unusedSimpArgs false
set_option linter.deprecated false
set_option linter.unusedSectionVars false
set_option linter.unusedVariables false
set_option linter.unusedSimpArgs false
namespace Go.Sm
attribute [local irreducible] bd chk ix loopN
/-! ### Lists that end in one more -/
theorem app_len {α : Type} (P : List α) (x : α) : (P ++ [x]).length = P.length + 1 := by simp
theorem app_get {α : Type} (P : List α) (x d : α) : (P ++ [x]).getD P.length d = x := by
  rw [getD_eq (by simp), List.getElem_append_right (Nat.le_refl _)]; simp
theorem app_set {α : Type} (x y : α) : ∀ P : List α, (P ++ [x]).set P.length y = P ++ [y]
  | [] => rfl
  | a :: P => by
    show a :: (P ++ [x]).set P.length y = a :: (P ++ [y])
    rw [app_set x y P]
theorem bstr_push (l : List Int) (b : Int) : bstr l ++ bstr [b] = bstr (l ++ [b]) := by
  apply ByteArray.ext
  simp [bstr]
theorem bstr_size (l : List Int) : (bstr l).size = l.length := by
  show (List.map _ l).toArray.size = _
  simp
theorem set_self {α : Type} {l : List α} {i : Nat} {d : α} (h : i < l.length) : l.set i (l.getD i d) = l := by
  rw [getD_eq h]; exact List.set_getElem_self h
theorem in_specE (n : Nat) (x a b : Int) : spec_l1In n x a b = some (decide (a ≤ x ∧ x ≤ b)) := by
  unfold spec_l1In
  by_cases h1 : x ≥ a
  · rw [decide_eq_true h1, cond_true]
    congr 1
    rw [decide_eq_decide]
    exact ⟨fun h => ⟨h1, h⟩, fun h => h.2⟩
  · rw [decide_eq_false h1, cond_false, decide_eq_false fun h => h1 h.1]
def capB (t : ByteArray) (i : Nat) : Bool := decide (65 ≤ byteAt t i ∧ byteAt t i ≤ 90)
theorem cap_impl (n : Nat) (t : ByteArray) (i : Nat) : impl_capital n (byteAt t i) = some (capB t i) := by
  unfold impl_capital capB
  by_cases h1 : byteAt t i ≥ 65
  · rw [decide_eq_true h1, cond_true]
    congr 1
    rw [decide_eq_decide]
    exact ⟨fun h => ⟨h1, h⟩, fun h => h.2⟩
  · rw [decide_eq_false h1, cond_false, decide_eq_false fun h => h1 h.1]
theorem plain_impl (n : Nat) (c : Int) : impl_plain n c = some (decide (32 ≤ c ∧ c ≤ 126)) := by
  unfold impl_plain
  by_cases h1 : c ≥ 32
  · rw [decide_eq_true h1, cond_true]
    congr 1
    rw [decide_eq_decide]
    exact ⟨fun h => ⟨h1, h⟩, fun h => h.2⟩
  · rw [decide_eq_false h1, cond_false, decide_eq_false fun h => h1 h.1]
def markB (c : Int) : Bool := decide (c = 43) || (decide (c = 58) || (decide (c = 39) || decide (c = 63)))
theorem mark_spec (n : Nat) (c : Int) : spec_l21Mark n c = some (markB c) := by
  unfold spec_l21Mark markB
  cases decide (c = 43) <;> cases decide (c = 58) <;> cases decide (c = 39) <;> rfl
theorem mark_impl (n : Nat) (c : Int) : impl_marked n c = some (markB c) := by
  unfold impl_marked markB
  cases decide (c = 43) <;> cases decide (c = 58) <;> cases decide (c = 39) <;> rfl
theorem mark_plain {c : Int} (h : markB c = true) : 32 ≤ c ∧ c ≤ 126 := by
  unfold markB at h
  simp only [Bool.or_eq_true, decide_eq_true_eq] at h
  omega
theorem w64_byte (t : ByteArray) (i : Nat) : w64 (byteAt t i) = byteAt t i := by
  have := byteAt_rng t i
  exact w64_id (by omega) (by omega)
/-! ### The head -/
def headB (t : ByteArray) (a : Nat) : Bool := decide (a + 3 < t.size) && (capB t a && (capB t (a + 1) && (capB t (a + 2) && (decide (byteAt t (a + 3) = 43) || decide (byteAt t (a + 3) = 39)))))
theorem h4_go {R : Type} {n : Nat} (kx : Option R) (kxr : Bool → Option R) (J : Int → Option R) {t : ByteArray} {a j : Nat} (hj : j < 3) (ha : a + 3 < t.size) (hs : t.size ≤ 2000) : spec_l21Head_L4 n kx kxr J t (a : Int) ((a + j : Nat) : Int) = bif capB t (a + j) then J ((a + (j + 1) : Nat) : Int) else kxr false := by
  have e1 : w64 ((a : Int) + 3) = ((a + 3 : Nat) : Int) := by rw [w64_id (by omega) (by omega)]; omega
  have e2 : w64 (((a + j : Nat) : Int) + 1) = ((a + (j + 1) : Nat) : Int) := by rw [w64_id (by omega) (by omega)]; omega
  have hi : a + j < t.size := by omega
  unfold spec_l21Head_L4
  rw [e1, decide_eq_true (by omega), cond_true, ix_nat hi, Int.toNat_natCast, w64_byte, in_specE, Option.bind_some, e2]
  unfold capB
  cases decide (65 ≤ byteAt t (a + j) ∧ byteAt t (a + j) ≤ 90) <;> rfl
theorem head_spec {n : Nat} (t : ByteArray) (a : Nat) (ha : a < t.size) (hs : t.size ≤ 2000) (hn : 1000000000 < n) : spec_l21Head n t (a : Int) = some (headB t a) := by
  have e1 : w64 ((a : Int) + 3) = ((a + 3 : Nat) : Int) := by rw [w64_id (by omega) (by omega)]; omega
  unfold spec_l21Head headB
  rw [e1]
  by_cases h : a + 3 < t.size
  · rw [decide_eq_false (by omega), cond_false, decide_eq_true h, Bool.true_and]
    unfold spec_l21Head_k0
    rw [e1, ix_nat h, Int.toNat_natCast]
    generalize hk : (bif decide (byteAt t (a + 3) = 43) then (some true : Option Bool) else ix ((a + 3 : Nat) : Int) t.size (some (decide (byteAt t (a + 3) = 39)))) = kx
    have hkx : kx = some (decide (byteAt t (a + 3) = 43) || decide (byteAt t (a + 3) = 39)) := by
      rw [← hk, ix_nat h]
      cases decide (byteAt t (a + 3) = 43) <;> rfl
    obtain ⟨f, hf⟩ : ∃ f, n = f + 4 := ⟨n - 4, by omega⟩
    have key : ∀ (m : Nat) (F : Nat), m = F + 4 → loopN (fun (x : Int) J' => spec_l21Head_L4 n kx (fun t10 => some t10) J' t (a : Int) x) m (a : Int) = some (capB t a && (capB t (a + 1) && (capB t (a + 2) && (decide (byteAt t (a + 3) = 43) || decide (byteAt t (a + 3) = 39))))) := by
      rintro m F rfl
      have h4 : ∀ J, spec_l21Head_L4 n kx (fun t10 => some t10) J t (a : Int) ((a + 3 : Nat) : Int) = kx := fun J => by
        unfold spec_l21Head_L4
        rw [e1, decide_eq_false (by omega), cond_false]
      rw [loopN_succ]
      refine (h4_go (j := 0) kx (fun t10 => some t10) _ (by omega) h hs).trans ?_
      cases hc0 : capB t (a + 0) with
      | false => rfl
      | true =>
        rw [cond_true, Bool.true_and, loopN_succ]
        refine (h4_go (j := 1) kx (fun t10 => some t10) _ (by omega) h hs).trans ?_
        cases hc1 : capB t (a + 1) with
        | false => rfl
        | true =>
          rw [cond_true, Bool.true_and, loopN_succ]
          refine (h4_go (j := 2) kx (fun t10 => some t10) _ (by omega) h hs).trans ?_
          cases hc2 : capB t (a + 2) with
          | false => rfl
          | true =>
            rw [cond_true, Bool.true_and, loopN_succ]
            exact (h4 _).trans hkx
    exact key n f hf
  · rw [decide_eq_true (by omega), cond_true, decide_eq_false h]; rfl
/-! ### What is read stays small -/
def Row21 (r : List ByteArray) : Prop := r.length ≤ 10 ∧ ∀ x ∈ r, x.size ≤ 40
def PartsOk (c : List (List ByteArray)) : Prop := c.length ≤ 20 ∧ ∀ r ∈ c, Row21 r
def SegOk (s : SSeg) : Prop := s.Tag.size ≤ 3 ∧ PartsOk s.Parts
def OutOk (l : List SSeg) : Prop := l.length ≤ 60 ∧ ∀ s ∈ l, SegOk s
structure Inv21 (P : List (List ByteArray)) (r : List ByteArray) (now : List Int) : Prop where
  p : P.length ≤ 19
  rows : ∀ x ∈ P, Row21 x
  rl : r.length ≤ 9
  txt : ∀ x ∈ r, x.size ≤ 40
  now : now.length ≤ 40
theorem Inv21.row {P : List (List ByteArray)} {r : List ByteArray} {now : List Int} (h : Inv21 P r now) : ∀ x ∈ r ++ [bstr now], x.size ≤ 40 := fun x hx => by
  rcases List.mem_append.1 hx with h1 | h1
  · exact h.txt x h1
  · rw [List.mem_singleton.1 h1, bstr_size]; exact h.now
theorem Inv21.parts {P : List (List ByteArray)} {r : List ByteArray} {now : List Int} (h : Inv21 P r now) : PartsOk (P ++ [r ++ [bstr now]]) := by
  have h1 := h.p
  have h2 := h.rl
  refine ⟨by rw [app_len]; omega, fun x hx => ?_⟩
  rcases List.mem_append.1 hx with g | g
  · exact h.rows x g
  · rw [List.mem_singleton.1 g]; exact ⟨by rw [app_len]; omega, h.row⟩
theorem close_ok {n : Nat} {P : List (List ByteArray)} {r : List ByteArray} {now : List Int} {s : ByteArray} (h : Inv21 P r now) : impl_ReadSegs_1 n ⟨s, P ++ [r]⟩ now = some (⟨s, P ++ [r ++ [bstr now]]⟩, []) := by
  have h1 := h.p
  have h2 := h.rl
  have hl : P.length < (P ++ [r]).length := by rw [app_len]; omega
  have e : w64 (((P ++ [r]).length : Int) - 1) = ((P.length : Nat) : Int) := by rw [app_len, w64_id (by omega) (by omega)]; omega
  unfold impl_ReadSegs_1
  dsimp only
  rw [e, bd_eq, decide_eq_true (by omega), cond_true]
  simp only [ix_nat hl, Int.toNat_natCast, chk_dec hl, app_get, app_set, bd_eq, decide_true, chk_true]
  rw [chk_dec (by rw [app_len]; omega)]
/-! ### The two inner loops -/
abbrev Res21 := List SSeg × Int × Int
def Fit21 (v : Res21) : Prop := OutOk v.1
def Both (x y : Option Res21) : Prop := ∃ v, x = some v ∧ y = some v ∧ Fit21 v
theorem both_err (code pos : Int) : Both (some ([], code, pos)) (some ([], code, pos)) := ⟨_, rfl, rfl, Nat.zero_le _, fun _ hs => absurd hs List.not_mem_nil⟩
abbrev sIn (n : Nat) (t : ByteArray) (out : List SSeg) (s : ByteArray) (KS : Int → List (List ByteArray) → Option Res21) (f : Nat) := loopN (fun (x : Int × Bool × List (List ByteArray)) (J' : Int × Bool × List (List ByteArray) → Option Res21) => spec_ReadSegs_L13 n (fun at117 ended118 c119 => (bif (!ended118) then (some ([], (5 : Int), (t.size : Int)) : Option Res21) else KS at117 c119)) (fun t126 t127 t128 => some (t128, t126, t127)) (fun at129 ended130 c131 => J' (at129, ended130, c131)) t x.1 x.2.1 out s x.2.2) f
abbrev iIn (n : Nat) (t : ByteArray) (list : List SSeg) (KI : Int → ByteArray → List (List ByteArray) → Option Res21) (f : Nat) := loopN (fun (x : Int × Bool × ByteArray × List (List ByteArray) × List Int) (J' : Int × Bool × ByteArray × List (List ByteArray) × List Int → Option Res21) => impl_ReadSegs_L16 n KI (fun t190 t191 t192 => some (t192, t190, t191)) (fun at193 ended194 s195 c196 c197 => J' (at193, ended194, s195, c196, c197)) t (t.size : Int) x.1 x.2.1 list x.2.2.1 x.2.2.2.1 x.2.2.2.2) f
theorem sIn_end {n : Nat} {t : ByteArray} {out : List SSeg} {s : ByteArray} {KS : Int → List (List ByteArray) → Option Res21} {f : Nat} {a : Int} {c : List (List ByteArray)} : sIn n t out s KS (f + 1) (a, true, c) = KS a c := by
  show loopN _ (f + 1) (a, true, c) = _
  rw [loopN_succ]
  show spec_ReadSegs_L13 n _ _ _ t a true out s c = _
  unfold spec_ReadSegs_L13
  cases decide (a < (t.size : Int)) <;> rfl
theorem iIn_end {n : Nat} {t : ByteArray} {list : List SSeg} {KI : Int → ByteArray → List (List ByteArray) → Option Res21} {f : Nat} {a : Int} {s : ByteArray} {c : List (List ByteArray)} {now : List Int} : iIn n t list KI (f + 1) (a, true, s, c, now) = KI a s c := by
  show loopN _ (f + 1) (a, true, s, c, now) = _
  rw [loopN_succ]
  show impl_ReadSegs_L16 n _ _ _ t (t.size : Int) a true list s c now = _
  unfold impl_ReadSegs_L16
  rfl
theorem inner {n : Nat} {t : ByteArray} (hs : t.size ≤ 2000) {out : List SSeg} {s : ByteArray} {a0 : Nat} {KS : Int → List (List ByteArray) → Option Res21} {KI : Int → ByteArray → List (List ByteArray) → Option Res21}
    (hK : ∀ (b : Nat) c, a0 < b → b ≤ t.size → PartsOk c → Both (KS (b : Int) c) (KI (b : Int) s c)) :
    ∀ (w a fS fI : Nat) (P : List (List ByteArray)) (r : List ByteArray) (now : List Int), t.size - a ≤ w → w + 1 < fS → w + 1 < fI → a ≤ t.size → a0 ≤ a → Inv21 P r now → Both (sIn n t out s KS fS ((a : Int), false, P ++ [r ++ [bstr now]])) (iIn n t out KI fI ((a : Int), false, s, P ++ [r], now)) := by
  intro w
  induction w with
  | zero =>
    intro a fS fI P r now h1 h2 h3 h4 h5 hi
    obtain ⟨f, rfl⟩ : ∃ f, fS = f + 1 := ⟨fS - 1, by omega⟩
    obtain ⟨g, rfl⟩ : ∃ g, fI = g + 1 := ⟨fI - 1, by omega⟩
    have : a = t.size := by omega
    subst this
    have e1 : sIn n t out s KS (f + 1) ((t.size : Int), false, P ++ [r ++ [bstr now]]) = some ([], 5, (t.size : Int)) := by
      show loopN _ (f + 1) _ = _
      rw [loopN_succ]
      show spec_ReadSegs_L13 n _ _ _ t (t.size : Int) false out s _ = _
      unfold spec_ReadSegs_L13
      rw [decide_eq_false (by omega)]; rfl
    have e2 : iIn n t out KI (g + 1) ((t.size : Int), false, s, P ++ [r], now) = some ([], 5, (t.size : Int)) := by
      show loopN _ (g + 1) _ = _
      rw [loopN_succ]
      show impl_ReadSegs_L16 n _ _ _ t (t.size : Int) (t.size : Int) false out s _ now = _
      unfold impl_ReadSegs_L16
      rw [decide_eq_true rfl]; rfl
    rw [e1, e2]; exact both_err _ _
  | succ w ih =>
    intro a fS fI P r now h1 h2 h3 h4 h5 hi
    by_cases hat : a = t.size
    · exact ih a fS fI P r now (by omega) (by omega) (by omega) h4 h5 hi
    have ha : a < t.size := by omega
    obtain ⟨f, rfl⟩ : ∃ f, fS = f + 1 + 1 := ⟨fS - 2, by omega⟩
    obtain ⟨g, rfl⟩ : ∃ g, fI = g + 1 + 1 := ⟨fI - 2, by omega⟩
    have hp := hi.p
    have hr := hi.rl
    have hw := hi.now
    have hrow := hi.row
    have e1 : w64 ((a : Int) + 1) = ((a + 1 : Nat) : Int) := w64_succ (by omega)
    have hn1 : P.length < (P ++ [r ++ [bstr now]]).length := by rw [app_len]; omega
    have hn2 : P.length < (P ++ [r]).length := by rw [app_len]; omega
    have ev : w64 (((P ++ [r ++ [bstr now]]).length : Int) - 1) = ((P.length : Nat) : Int) := by rw [app_len, w64_id (by omega) (by omega)]; omega
    have ev2 : w64 (((P ++ [r]).length : Int) - 1) = ((P.length : Nat) : Int) := by rw [app_len, w64_id (by omega) (by omega)]; omega
    have go : ∀ (b : Nat) P' r' now', a < b → b ≤ t.size → Inv21 P' r' now' → Both (sIn n t out s KS (f + 1) ((b : Int), false, P' ++ [r' ++ [bstr now']])) (iIn n t out KI (g + 1) ((b : Int), false, s, P' ++ [r'], now')) := fun b P' r' now' g1 g2 g3 => ih b (f + 1) (g + 1) P' r' now' (by omega) (by omega) (by omega) g2 (by omega) g3
    have hS : sIn n t out s KS (f + 1 + 1) ((a : Int), false, P ++ [r ++ [bstr now]]) = spec_ReadSegs_k4 n (fun at117 ended118 c119 => (bif (!ended118) then (some ([], (5 : Int), (t.size : Int)) : Option Res21) else KS at117 c119)) (fun t126 t127 t128 => some (t128, t126, t127)) (fun at129 ended130 c131 => sIn n t out s KS (f + 1) (at129, ended130, c131)) t (a : Int) false out s (P ++ [r ++ [bstr now]]) := by
      show loopN _ (f + 1 + 1) _ = _
      rw [loopN_succ]
      show spec_ReadSegs_L13 n _ _ _ t (a : Int) false out s _ = _
      unfold spec_ReadSegs_L13
      rw [decide_eq_true (by omega)]; rfl
    have hI : iIn n t out KI (g + 1 + 1) ((a : Int), false, s, P ++ [r], now) = impl_ReadSegs_k1 n KI (fun t190 t191 t192 => some (t192, t190, t191)) (fun at193 ended194 s195 c196 c197 => iIn n t out KI (g + 1) (at193, ended194, s195, c196, c197)) t (t.size : Int) (a : Int) false out s (P ++ [r]) now := by
      show loopN _ (g + 1 + 1) _ = _
      rw [loopN_succ]
      show impl_ReadSegs_L16 n _ _ _ t (t.size : Int) (a : Int) false out s _ now = _
      unfold impl_ReadSegs_L16
      rw [decide_eq_false (by omega)]; rfl
    rw [hS, hI]
    -- a byte more
    have hk2 : ∀ (b : Nat) (here : Int) (ch : Int), b + 1 ≤ t.size → a ≤ b → Both (spec_ReadSegs_k2 n (fun at117 ended118 c119 => (bif (!ended118) then (some ([], (5 : Int), (t.size : Int)) : Option Res21) else KS at117 c119)) (fun t126 t127 t128 => some (t128, t126, t127)) (fun at129 ended130 c131 => sIn n t out s KS (f + 1) (at129, ended130, c131)) t (b : Int) false ch (P.length : Int) here out s (P ++ [r ++ [bstr now]])) (bif decide ((now.length : Int) = 40) then some ([], 4, here) else iIn n t out KI (g + 1) (((b + 1 : Nat) : Int), false, s, P ++ [r], now ++ [ch])) := fun b here ch hb hab => by
      have eb : w64 ((b : Int) + 1) = ((b + 1 : Nat) : Int) := w64_succ (by omega)
      have hk : r.length < (r ++ [bstr now]).length := by rw [app_len]; omega
      have ek : w64 (((r ++ [bstr now]).length : Int) - 1) = ((r.length : Nat) : Int) := by rw [app_len, w64_id (by omega) (by omega)]; omega
      unfold spec_ReadSegs_k2
      simp only [ix_nat hn1, Int.toNat_natCast, chk_dec hn1, app_get, ek, bd_eq, ix_nat hk, chk_dec hk, bstr_size]
      by_cases h40 : (now.length : Int) = 40
      · rw [decide_eq_true h40]; exact both_err _ _
      · rw [decide_eq_false h40, cond_false, cond_false]
        unfold spec_ReadSegs_k1
        simp only [ix_nat hn1, Int.toNat_natCast, chk_dec hn1, app_get, bd_eq, ix_nat hk, chk_dec hk, bstr_size, app_set, bstr_push, eb]
        rw [chk_dec (by simp; omega)]
        exact go (b + 1) P r (now ++ [ch]) (by omega) hb ⟨hi.p, hi.rows, hi.rl, hi.txt, by rw [app_len]; omega⟩
    unfold spec_ReadSegs_k4 impl_ReadSegs_k1
    rw [ix_nat ha, ix_nat ha, ev, bd_eq, Int.toNat_natCast, e1, close_ok hi]
    simp only [Option.bind_some]
    have hbr := byteAt_rng t a
    have hw64 := w64_byte t a
    generalize hch : byteAt t a = ch at hbr hw64 ⊢
    by_cases c1 : ch = 39
    · rw [decide_eq_true c1, cond_true, cond_true, sIn_end, iIn_end]
      exact hK (a + 1) _ (by omega) (by omega) hi.parts
    rw [decide_eq_false c1, cond_false, cond_false]
    by_cases c2 : ch = 43
    · have al : ((P ++ [r ++ [bstr now]]).length : Int) = (P.length : Int) + 1 := by rw [app_len]; omega
      rw [decide_eq_true c2, cond_true, cond_true]
      by_cases h20 : P.length = 19
      · rw [decide_eq_true (show (P.length : Int) = 19 by omega), decide_eq_true (show ((P ++ [r ++ [bstr now]]).length : Int) = 20 by omega)]; exact both_err _ _
      · rw [decide_eq_false (show ¬ (P.length : Int) = 19 by omega), decide_eq_false (show ¬ ((P ++ [r ++ [bstr now]]).length : Int) = 20 by omega), cond_false, cond_false, chk_dec (by rw [app_len, app_len]; omega), chk_dec (by rw [app_len, app_len]; omega)]
        exact go (a + 1) (P ++ [r ++ [bstr now]]) [] [] (by omega) (by omega) ⟨by rw [app_len]; omega, hi.parts.2, by simp, fun x hx => absurd hx List.not_mem_nil, by simp⟩
    rw [decide_eq_false c2, cond_false, cond_false]
    by_cases c3 : ch = 58
    · rw [decide_eq_true c3, cond_true, cond_true, ev2, bd_eq, ix_nat hn1, ix_nat hn2, Int.toNat_natCast, chk_dec hn1, chk_dec hn1, chk_dec hn2, chk_dec hn2, app_get, app_get, app_len]
      by_cases h9 : r.length = 9
      · rw [decide_eq_true (show ((r.length + 1 : Nat) : Int) = 10 by omega), decide_eq_true (show (r.length : Int) = 9 by omega)]; exact both_err _ _
      · rw [decide_eq_false (show ¬ ((r.length + 1 : Nat) : Int) = 10 by omega), decide_eq_false (show ¬ (r.length : Int) = 9 by omega), cond_false, cond_false]
        unfold spec_ReadSegs_k0
        simp only [ix_nat hn1, Int.toNat_natCast, chk_dec hn1, app_get, bd_eq, app_set, e1, decide_true, chk_true]
        rw [chk_dec (by rw [app_len, app_len]; omega)]
        exact go (a + 1) P (r ++ [bstr now]) [] (by omega) (by omega) ⟨hi.p, hi.rows, by rw [app_len]; omega, hrow, by simp⟩
    rw [decide_eq_false c3, cond_false, cond_false, plain_impl, Option.bind_some]
    by_cases c4 : ch = 63
    · rw [decide_eq_true c4, cond_true, cond_true, decide_eq_true (show 32 ≤ ch ∧ ch ≤ 126 by omega), Bool.not_true, cond_false]
      by_cases h6 : a + 1 = t.size
      · rw [decide_eq_true (show ((a + 1 : Nat) : Int) ≥ (t.size : Int) by omega), decide_eq_true (show ((a + 1 : Nat) : Int) = (t.size : Int) by omega)]; exact both_err _ _
      · have ha1 : a + 1 < t.size := by omega
        rw [decide_eq_false (show ¬ ((a + 1 : Nat) : Int) ≥ (t.size : Int) by omega), decide_eq_false (show ¬ ((a + 1 : Nat) : Int) = (t.size : Int) by omega), cond_false, cond_false, ix_nat ha1, ix_nat ha1, Int.toNat_natCast, mark_spec, mark_impl, Option.bind_some, Option.bind_some]
        cases hm : markB (byteAt t (a + 1)) with
        | false => exact both_err _ _
        | true =>
          rw [Bool.not_true, cond_false, cond_false]
          unfold spec_ReadSegs_k3
          rw [e1, ix_nat ha1, Int.toNat_natCast, w64_byte, in_specE, Option.bind_some, decide_eq_true (mark_plain hm), Bool.not_true, cond_false]
          have hk := hk2 (a + 1) (a : Int) (byteAt t (a + 1)) (by omega) (by omega)
          have e2 : w64 (((a + 1 : Nat) : Int) + 1) = ((a + 1 + 1 : Nat) : Int) := w64_succ (by omega)
          unfold impl_ReadSegs_k0
          rw [decide_eq_true c4, cond_true, e1, bd_eq, ix_nat ha1, Int.toNat_natCast, bd_eq, chk_dec (by rw [app_len]; omega), e2]
          exact hk
    · rw [decide_eq_false c4, cond_false, hw64, in_specE, Option.bind_some]
      by_cases h5 : 32 ≤ ch ∧ ch ≤ 126
      · rw [decide_eq_true h5, Bool.not_true, cond_false, cond_false, cond_false]
        have hk := hk2 a (a : Int) ch (by omega) (Nat.le_refl _)
        unfold impl_ReadSegs_k0
        rw [decide_eq_false c4, cond_false, ix_nat ha, Int.toNat_natCast, hch, bd_eq, chk_dec (by rw [app_len]; omega), e1, bd_eq]
        exact hk
      · rw [decide_eq_false h5]; exact both_err _ _
end Go.Sm
end

section
set_option linter.unusedSimpArgs false
set_option linter.deprecated false
set_option linter.unusedSectionVars false
set_option linter.unusedVariables false
set_option linter.unusedSimpArgs false
namespace Go.Sm
attribute [local irreducible] bd chk ix loopN
theorem close_nil {n : Nat} {s : ByteArray} {now : List Int} : impl_ReadSegs_1 n ⟨s, []⟩ now = some (⟨s, []⟩, now) := by
  unfold impl_ReadSegs_1
  dsimp only
  rw [show w64 ((([] : List (List ByteArray)).length : Int) - 1) = -1 from rfl, bd_eq]
  rfl
theorem first21 {n : Nat} {t : ByteArray} (hs : t.size ≤ 2000) {out : List SSeg} {s : ByteArray} {a : Nat} {KS : Int → List (List ByteArray) → Option Res21} {KI : Int → ByteArray → List (List ByteArray) → Option Res21}
    (hK : ∀ (b : Nat) c, a < b → b ≤ t.size → PartsOk c → Both (KS (b : Int) c) (KI (b : Int) s c)) (ha : a < t.size) (hch : byteAt t a = 43 ∨ byteAt t a = 39) (hn : 1000000000 < n) :
    Both (sIn n t out s KS n ((a : Int), false, [])) (iIn n t out KI n ((a : Int), false, s, [], [])) := by
  have e1 : w64 ((a : Int) + 1) = ((a + 1 : Nat) : Int) := w64_succ (by omega)
  have key : ∀ (m F : Nat), m = F + 1 + 1 → 100000 < F → Both (sIn n t out s KS m ((a : Int), false, [])) (iIn n t out KI m ((a : Int), false, s, [], [])) := by
    rintro m F rfl hF
    have hS : sIn n t out s KS (F + 1 + 1) ((a : Int), false, []) = spec_ReadSegs_k4 n (fun at117 ended118 c119 => (bif (!ended118) then (some ([], (5 : Int), (t.size : Int)) : Option Res21) else KS at117 c119)) (fun t126 t127 t128 => some (t128, t126, t127)) (fun at129 ended130 c131 => sIn n t out s KS (F + 1) (at129, ended130, c131)) t (a : Int) false out s [] := by
      show loopN _ (F + 1 + 1) _ = _
      rw [loopN_succ]
      show spec_ReadSegs_L13 n _ _ _ t (a : Int) false out s _ = _
      unfold spec_ReadSegs_L13
      rw [decide_eq_true (by omega)]; rfl
    have hI : iIn n t out KI (F + 1 + 1) ((a : Int), false, s, [], []) = impl_ReadSegs_k1 n KI (fun t190 t191 t192 => some (t192, t190, t191)) (fun at193 ended194 s195 c196 c197 => iIn n t out KI (F + 1) (at193, ended194, s195, c196, c197)) t (t.size : Int) (a : Int) false out s [] [] := by
      show loopN _ (F + 1 + 1) _ = _
      rw [loopN_succ]
      show impl_ReadSegs_L16 n _ _ _ t (t.size : Int) (a : Int) false out s _ _ = _
      unfold impl_ReadSegs_L16
      rw [decide_eq_false (by omega)]; rfl
    rw [hS, hI]
    unfold spec_ReadSegs_k4 impl_ReadSegs_k1
    rw [ix_nat ha, ix_nat ha, bd_eq, Int.toNat_natCast, e1, close_nil]
    simp only [Option.bind_some]
    rcases hch with c2 | c1
    · rw [decide_eq_false (show ¬ byteAt t a = 39 by omega), cond_false, cond_false, decide_eq_true c2, cond_true, cond_true, show decide (w64 ((([] : List (List ByteArray)).length : Int) - 1) = 19) = false from rfl, cond_false, show decide (((([] : List (List ByteArray)).length : Nat) : Int) = 20) = false from rfl, cond_false, chk_dec (by decide), chk_dec (by decide)]
      exact inner hs hK t.size (a + 1) (F + 1) (F + 1) [] [] [] (by omega) (by omega) (by omega) (by omega) (by omega) ⟨by simp, fun x hx => absurd hx List.not_mem_nil, by simp, fun x hx => absurd hx List.not_mem_nil, by simp⟩
    · rw [decide_eq_true c1, cond_true, cond_true, sIn_end, iIn_end]
      exact hK (a + 1) [] (by omega) (by omega) ⟨Nat.zero_le _, fun x hx => absurd hx List.not_mem_nil⟩
  exact key n (n - 2) (by omega) (by omega)
theorem head_impl {R : Type} {n : Nat} (kx : List SSeg → Option R) (kxr : Int → Int → List SSeg → Option R) (J : Int → List SSeg → Option R) {t : ByteArray} {a : Nat} {l : List SSeg} (ha : a < t.size) (hs : t.size ≤ 2000) : impl_ReadSegs_k4 n kx kxr J t (t.size : Int) (a : Int) l = bif headB t a then impl_ReadSegs_k3 n kx kxr J t (t.size : Int) (a : Int) l else kxr 2 (a : Int) [] := by
  have e4 : w64 ((a : Int) + 4) = ((a + 4 : Nat) : Int) := by rw [w64_id (by omega) (by omega)]; omega
  have e1 : w64 ((a : Int) + 1) = ((a + 1 : Nat) : Int) := by rw [w64_id (by omega) (by omega)]; omega
  have e2 : w64 ((a : Int) + 2) = ((a + 2 : Nat) : Int) := by rw [w64_id (by omega) (by omega)]; omega
  have e3 : w64 ((a : Int) + 3) = ((a + 3 : Nat) : Int) := by rw [w64_id (by omega) (by omega)]; omega
  unfold impl_ReadSegs_k4 headB
  rw [e4, e1, e2, e3]
  by_cases h : a + 3 < t.size
  · rw [decide_eq_false (by omega), cond_false, decide_eq_true h, Bool.true_and, ix_nat ha, ix_nat (show a + 1 < t.size by omega), ix_nat (show a + 2 < t.size by omega), ix_nat h, ix_nat h]
    simp only [Int.toNat_natCast, cap_impl, Option.bind_some]
    generalize capB t a = c0
    generalize capB t (a + 1) = c1
    generalize capB t (a + 2) = c2
    generalize decide (byteAt t (a + 3) = 43) = c3
    generalize decide (byteAt t (a + 3) = 39) = c4
    cases c0 <;> cases c1 <;> cases c2 <;> cases c3 <;> cases c4 <;> rfl
  · rw [decide_eq_true (by omega), cond_true, decide_eq_false h]; rfl
theorem headB_at {t : ByteArray} {a : Nat} (h : headB t a = true) : a + 3 < t.size ∧ (byteAt t (a + 3) = 43 ∨ byteAt t (a + 3) = 39) := by
  unfold headB at h
  simp only [Bool.and_eq_true, Bool.or_eq_true, decide_eq_true_eq] at h
  exact ⟨h.1, h.2.2.2.2⟩
/-! ### The two outer loops -/
abbrev sOut (n : Nat) (t : ByteArray) (f : Nat) := loopN (fun (x : Int × List SSeg) (J' : Int × List SSeg → Option Res21) => spec_ReadSegs_L5 n (fun out146 => some (out146, (0 : Int), (0 : Int))) (fun t147 t148 t149 => some (t149, t147, t148)) (fun at150 out151 => J' (at150, out151)) t x.1 x.2) f
abbrev iOut (n : Nat) (t : ByteArray) (f : Nat) := loopN (fun (x : Int × List SSeg) (J' : Int × List SSeg → Option Res21) => impl_ReadSegs_L6 n (fun list215 => (impl_own_impl_Seg n list215).bind fun r216 => some (r216, (0 : Int), (0 : Int))) (fun t217 t218 t219 => some (t219, t217, t218)) (fun at220 list221 => J' (at220, list221)) t (t.size : Int) x.1 x.2) f
theorem own_rows {R : Type} {n : Nat} {Q : Option R → Prop} (kx : List (List ByteArray) → Option R) {t : ByteArray} {n3 a : Int} {l : List SSeg} {s : ByteArray} {c : List (List ByteArray)} (hc : PartsOk c) (hn : 1000000000 < n) (hq : Q (kx c)) : Q (loopN (fun (x : Int × List (List ByteArray)) J' => impl_ReadSegs_L41 n kx (fun t188 c189 => J' (t188, c189)) t n3 a (c.length : Int) x.1 l s x.2) n ((0 : Int), c)) := by
  have hl := hc.1
  refine loop_runS (enc := fun k (z : List (List ByteArray)) => (k, z)) (I := fun _ z => z = c) (Q := Q) (len := c.length) (fun k z J hk hI => ⟨c, rfl, ?_⟩) (fun z J hI => ?_) (by omega) rfl
  · have e : w64 ((k : Int) + 1) = ((k + 1 : Nat) : Int) := w64_succ (by omega)
    have hr := (hc.2 _ (getD_mem (d := ([] : List ByteArray)) hk)).1
    subst hI
    show impl_ReadSegs_L41 n kx (fun t188 c189 => J (t188, c189)) t n3 a (z.length : Int) (k : Int) l s z = _
    unfold impl_ReadSegs_L41 impl_ReadSegs_k2 impl_own_string
    rw [decide_eq_true (by omega), cond_true, ix_nat hk, Int.toNat_natCast, chk_dec hk, chk_dec hk, chk_dec (by omega), chk_dec (by omega), chk_dec (by omega), Option.bind_some, ix_nat hk, chk_dec hk, set_self hk, e]
  · subst hI
    show Q (impl_ReadSegs_L41 n kx (fun t188 c189 => J (t188, c189)) t n3 a (z.length : Int) (z.length : Int) l s z)
    unfold impl_ReadSegs_L41
    rw [decide_eq_false (by omega), cond_false]
    exact hq
theorem outer {n : Nat} {t : ByteArray} (hs : t.size ≤ 2000) (hn : 1000000000 < n) : ∀ (w a fS fI : Nat) (l : List SSeg), t.size - a ≤ w → w < fS → w < fI → a ≤ t.size → OutOk l → Both (sOut n t fS ((a : Int), l)) (iOut n t fI ((a : Int), l)) := by
  intro w
  induction w with
  | zero =>
    intro a fS fI l h1 h2 h3 h4 hl
    obtain ⟨f, rfl⟩ : ∃ f, fS = f + 1 := ⟨fS - 1, by omega⟩
    obtain ⟨g, rfl⟩ : ∃ g, fI = g + 1 := ⟨fI - 1, by omega⟩
    have hll := hl.1
    have e1 : sOut n t (f + 1) ((a : Int), l) = some (l, 0, 0) := by
      show loopN _ (f + 1) _ = _
      rw [loopN_succ]
      show spec_ReadSegs_L5 n _ _ _ t (a : Int) l = _
      unfold spec_ReadSegs_L5
      rw [decide_eq_false (by omega), cond_false]
    have e2 : iOut n t (g + 1) ((a : Int), l) = some (l, 0, 0) := by
      show loopN _ (g + 1) _ = _
      rw [loopN_succ]
      show impl_ReadSegs_L6 n _ _ _ t (t.size : Int) (a : Int) l = _
      unfold impl_ReadSegs_L6 impl_own_impl_Seg
      rw [decide_eq_false (by omega), cond_false]
      dsimp only
      rw [chk_dec (by omega), chk_dec (by omega), chk_dec (by omega), Option.bind_some]
    rw [e1, e2]
    exact ⟨_, rfl, rfl, hl⟩
  | succ w ih =>
    intro a fS fI l h1 h2 h3 h4 hl
    by_cases hat : a = t.size
    · exact ih a fS fI l (by omega) (by omega) (by omega) h4 hl
    have ha : a < t.size := by omega
    obtain ⟨f, rfl⟩ : ∃ f, fS = f + 1 := ⟨fS - 1, by omega⟩
    obtain ⟨g, rfl⟩ : ∃ g, fI = g + 1 := ⟨fI - 1, by omega⟩
    have hll := hl.1
    have e3 : w64 ((a : Int) + 3) = ((a + 3 : Nat) : Int) := by rw [w64_id (by omega) (by omega)]; omega
    have hS : sOut n t (f + 1) ((a : Int), l) = spec_ReadSegs_L5 n (fun out146 => some (out146, (0 : Int), (0 : Int))) (fun t147 t148 t149 => some (t149, t147, t148)) (fun at150 out151 => sOut n t f (at150, out151)) t (a : Int) l := by
      show loopN _ (f + 1) _ = _
      rw [loopN_succ]
    have hI : iOut n t (g + 1) ((a : Int), l) = impl_ReadSegs_L6 n (fun list215 => (impl_own_impl_Seg n list215).bind fun r216 => some (r216, (0 : Int), (0 : Int))) (fun t217 t218 t219 => some (t219, t217, t218)) (fun at220 list221 => iOut n t g (at220, list221)) t (t.size : Int) (a : Int) l := by
      show loopN _ (g + 1) _ = _
      rw [loopN_succ]
    rw [hS, hI]
    unfold spec_ReadSegs_L5 impl_ReadSegs_L6
    rw [decide_eq_true (show (a : Int) < (t.size : Int) by omega), cond_true, cond_true]
    by_cases h60 : (l.length : Int) = 60
    · rw [decide_eq_true h60]; exact both_err _ _
    rw [decide_eq_false h60, cond_false, cond_false, head_spec t a ha hs hn, Option.bind_some, head_impl _ _ _ ha hs]
    cases hh : headB t a with
    | false => exact both_err _ _
    | true =>
      obtain ⟨hb1, hb2⟩ := headB_at hh
      rw [Bool.not_true, cond_false, cond_true]
      unfold spec_ReadSegs_k5 impl_ReadSegs_k3
      rw [e3, chk_dec (by omega), chk_dec (by omega), chk_dec (by omega), chk_dec (by omega), chk_dec (by omega), chk_dec (by omega), chk_dec (by omega), chk_dec (by omega), Int.toNat_natCast, Int.toNat_natCast]
      refine first21 (s := t.extract a (a + 3)) (KS := fun at117 c119 => bd (l ++ [(⟨t.extract a (a + 3), c119⟩ : SSeg)]) fun (l125 : List SSeg) => chk (decide (l125.length * 40 ≤ 140737488355328)) (sOut n t f (at117, l125))) hs (fun b c hb1' hb2' hc => ?_) hb1 hb2 hn
      dsimp only
      have hlen : (l ++ [(⟨t.extract a (a + 3), c⟩ : SSeg)]).length ≤ 60 := by rw [app_len]; omega
      have hok : OutOk (l ++ [(⟨t.extract a (a + 3), c⟩ : SSeg)]) := ⟨hlen, fun x hx => by
        rcases List.mem_append.1 hx with h | h
        · exact hl.2 x h
        · rw [List.mem_singleton.1 h]
          exact ⟨by show (t.extract a (a + 3)).size ≤ 3; rw [ByteArray.size_extract]; omega, hc⟩⟩
      rw [bd_eq, chk_dec (by omega)]
      refine own_rows (Q := fun x => Both (sOut n t f ((b : Int), l ++ [(⟨t.extract a (a + 3), c⟩ : SSeg)])) x) _ hc hn ?_
      have hcl := hc.1
      unfold impl_own_string_f142
      rw [chk_dec (by omega), chk_dec (by omega), chk_dec (by omega), Option.bind_some, bd_eq, chk_dec (by omega)]
      exact ih b f g _ (by omega) (by omega) (by omega) hb2' hok
theorem read_both {n : Nat} (t : ByteArray) (hn : 1000000000 < n) : Both (spec_ReadSegs n t) (impl_ReadSegs n t) := by
  unfold spec_ReadSegs impl_ReadSegs
  by_cases hs : (t.size : Int) > 2000
  · rw [decide_eq_true hs]; exact both_err _ _
  · rw [decide_eq_false hs, cond_false, cond_false]
    exact outer (t := t) (by omega) hn t.size 0 n n [] (by omega) (by omega) (by omega) (Nat.zero_le _) ⟨Nat.zero_le _, fun x hx => absurd hx List.not_mem_nil⟩
theorem sumOf_bd {α : Type} {f : α → Nat} {B : Nat} : ∀ l : List α, (∀ x ∈ l, f x ≤ B) → sumOf f l ≤ B * l.length
  | [], _ => Nat.zero_le _
  | a :: l, h => by
    have e : sumOf f (a :: l) = f a + sumOf f l := rfl
    have h1 := h a List.mem_cons_self
    have h2 := sumOf_bd l fun x hx => h x (List.mem_cons_of_mem _ hx)
    rw [e, List.length_cons, Nat.mul_succ]
    omega
theorem w_small {l : List SSeg} (h : OutOk l) : w_LSSeg l ≤ 1000000 := by
  have hrow : ∀ r : List ByteArray, Row21 r → w_LBA r ≤ 410 := fun r hr => by
    have h1 := hr.1
    have h2 := sumOf_bd (f := fun y : ByteArray => y.size) (B := 40) r hr.2
    unfold w_LBA
    have := Nat.mul_le_mul_left 40 h1
    omega
  have hparts : ∀ c : List (List ByteArray), PartsOk c → w_LLBA c ≤ 8220 := fun c hc => by
    have h1 := hc.1
    have h2 := sumOf_bd (f := fun y : List ByteArray => w_LBA y) (B := 410) c fun x hx => hrow x (hc.2 x hx)
    unfold w_LLBA
    have := Nat.mul_le_mul_left 410 h1
    omega
  have hseg : ∀ s ∈ l, w_SSeg s ≤ 8223 := fun s hs => by
    have h1 := (h.2 s hs).1
    have h2 := hparts _ (h.2 s hs).2
    unfold w_SSeg
    omega
  have h1 := h.1
  have h2 := sumOf_bd (f := fun y : SSeg => w_SSeg y) (B := 8223) l hseg
  unfold w_LSSeg
  have := Nat.mul_le_mul_left 8223 h1
  omega
theorem laws_FnExactReadSegs_true (aText0 : ByteArray) (h0 : aText0.size ≤ 9223372036854775807) : ∃ n, laws_FnExactReadSegs n aText0 = some true := by
  refine ⟨1000000001, ?_⟩
  generalize hN : (1000000001 : Nat) = n
  have hn : 1000000000 < n := by omega
  unfold laws_FnExactReadSegs
  by_cases hb : (aText0.size : Int) > 1048576
  · rw [decide_eq_true hb]; rfl
  rw [decide_eq_false hb, cond_false]
  obtain ⟨v, hS, hI, hG⟩ := read_both (n := n) aText0 hn
  have hw := w_small hG
  obtain ⟨R1, R2, R3⟩ := v
  have hw : w_LSSeg R1 ≤ 1000000 := hw
  have hnw := n_LSSeg_le R1
  obtain ⟨p, m1, m2⟩ := laws_markSegS_ok (n := n) R1 1 (by omega) (by omega) (by omega) hn
  have d1 : decide (1 + ((n_LSSeg R1 : Nat) : Int) < 0) = false := decide_eq_false (by omega)
  unfold laws_FnExactReadSegs_k1 laws_FnExactReadSegs_k0
  simp only [hS, hI, Option.bind_some, laws_eqSegS_ok R1 (by omega) hn, m1, m2, d1, decide_true, Bool.not_true, cond_false, cond_true]
end Go.Sm
end
