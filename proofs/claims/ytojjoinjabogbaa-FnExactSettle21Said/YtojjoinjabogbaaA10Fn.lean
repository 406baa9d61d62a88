import Derived.Test.YtojjoinjabogbaaEngA
/- The functions as plain functions over data, and that the law answers true for all arguments. Settle21: two parties end alike by the written-out exchange and by the built one, for all parties, losses and rounds. -/
section
set_option linter.unusedSimpArgs false
set_option linter.deprecated false
set_option linter.unusedSectionVars false
set_option linter.unusedVariables false
namespace Go.Sm
structure SParty where
  Sent : List ByteArray
  Acked : Int
  Got : List ByteArray
structure SPost where
  From : Int
  Number : Int
  Ack : Int
  Text : ByteArray
def dSParty : SParty := ⟨[], (0 : Int), []⟩
def dSPost : SPost := ⟨(0 : Int), (0 : Int), (0 : Int), str []⟩
def laws_szStringS_L5 {R : Type} (n : Nat) (kx0 : Int → Option R) (kxr : Int → Option R) (J : Int → Int → Option R) (a3 : List ByteArray) (left4 : Int) (i5 : Int) : Option R :=
  (bif (decide (i5 < (a3.length : Int))) then ix i5 a3.length ((bd (w64 (left4 - ((a3.getD i5.toNat (str [])).size : Int))) fun (v11 : Int) => (bif (decide (v11 < (0 : Int))) then kxr (-1 : Int) else J v11 (w64 (i5 + (1 : Int)))))) else kx0 left4)
def laws_szStringS (n : Nat) (a0 : List ByteArray) (left1 : Int) : Option Int :=
  (bd (w64 (left1 - (a0.length : Int))) fun (v1 : Int) => (bif (decide (v1 < (0 : Int))) then some ((-1 : Int)) else loopN (fun (x : Int × Int) J' => laws_szStringS_L5 n (fun left18 => some (left18)) (fun t19 => some (t19)) (fun left20 i21 => J' (left20, i21)) a0 x.1 x.2) n (v1, (0 : Int))))
def laws_szParty (n : Nat) (a0 : SParty) (left1 : Int) : Option Int :=
  (laws_szStringS n a0.Sent left1).bind fun r1 => (bif (decide (r1 < (0 : Int))) then some ((-1 : Int)) else (laws_szStringS n a0.Got r1).bind fun r5 => (bif (decide (r5 < (0 : Int))) then some ((-1 : Int)) else some (r5)))
def laws_toStringS_L3 {R : Type} (n : Nat) (kx0 : List ByteArray → Option R) (J : Int → List ByteArray → Option R) (a1 : List ByteArray) (i2 : Int) (out3 : List ByteArray) : Option R :=
  (bif (decide (i2 < (a1.length : Int))) then ix i2 a1.length (ix i2 out3.length (chk (decide (i2.toNat < out3.length)) ((bd (out3.set i2.toNat (a1.getD i2.toNat (str []))) fun (l7 : List ByteArray) => J (w64 (i2 + (1 : Int))) l7)))) else kx0 out3)
def laws_toStringS (n : Nat) (a0 : List ByteArray) : Option (List ByteArray) :=
  chk (decide ((0 : Int) ≤ (a0.length : Int))) (chk (decide ((a0.length : Int) ≤ (a0.length : Int))) (chk (decide ((a0.length : Int) ≤ 9223372036854775807 ∧ (a0.length : Int) * (16 : Int) ≤ 281474976710656)) (loopN (fun (x : Int × List ByteArray) J' => laws_toStringS_L3 n (fun out8 => some (out8)) (fun i9 out10 => J' (i9, out10)) a0 x.1 x.2) n ((0 : Int), (List.replicate (a0.length : Int).toNat (str []))))))
def laws_toParty (n : Nat) (a0 : SParty) : Option SParty :=
  (laws_toStringS n a0.Sent).bind fun r1 => (laws_toStringS n a0.Got).bind fun r2 => some ((⟨r1, a0.Acked, r2⟩ : SParty))
def laws_toBoolS_L3 {R : Type} (n : Nat) (kx0 : List Bool → Option R) (J : Int → List Bool → Option R) (a1 : List Bool) (i2 : Int) (out3 : List Bool) : Option R :=
  (bif (decide (i2 < (a1.length : Int))) then ix i2 a1.length (ix i2 out3.length (chk (decide (i2.toNat < out3.length)) ((bd (out3.set i2.toNat (a1.getD i2.toNat false)) fun (l7 : List Bool) => J (w64 (i2 + (1 : Int))) l7)))) else kx0 out3)
def laws_toBoolS (n : Nat) (a0 : List Bool) : Option (List Bool) :=
  chk (decide ((0 : Int) ≤ (a0.length : Int))) (chk (decide ((a0.length : Int) ≤ (a0.length : Int))) (chk (decide ((a0.length : Int) ≤ 9223372036854775807 ∧ (a0.length : Int) * (1 : Int) ≤ 281474976710656)) (loopN (fun (x : Int × List Bool) J' => laws_toBoolS_L3 n (fun out8 => some (out8)) (fun i9 out10 => J' (i9, out10)) a0 x.1 x.2) n ((0 : Int), (List.replicate (a0.length : Int).toNat false)))))
def spec_l21Texts_L2 {R : Type} (n : Nat) (kx0 : Option R) (kxr : Bool → Option R) (J : Int → Option R) (list1 : List ByteArray) (i2 : Int) : Option R :=
  (bif (decide (i2 < (list1.length : Int))) then ix i2 list1.length ((bif (decide (((list1.getD i2.toNat (str [])).size : Int) > (40 : Int))) then kxr false else J (w64 (i2 + (1 : Int))))) else kx0)
def spec_l21Texts (n : Nat) (list0 : List ByteArray) : Option Bool :=
  loopN (fun (x : Int) J' => spec_l21Texts_L2 n (some ((decide ((list0.length : Int) ≤ (200 : Int))))) (fun t6 => some (t6)) J' list0 x) n ((0 : Int))
def spec_l1In (n : Nat) (x0 : Int) (a1 : Int) (b2 : Int) : Option Bool :=
  (bif (decide (x0 ≥ a1)) then some ((decide (x0 ≤ b2))) else some (false))
def spec_PartyOk (n : Nat) (p0 : SParty) : Option Bool :=
  (spec_l21Texts n p0.Sent).bind fun r1 => (bif r1 then (spec_l21Texts n p0.Got).bind fun r2 => (bif r2 then (spec_l1In n p0.Acked (0 : Int) (p0.Sent.length : Int)).bind fun r3 => some (r3) else some (false)) else some (false))
def spec_l21Begins_L2 {R : Type} (n : Nat) (kx0 : Option R) (kxr : Bool → Option R) (J : Int → Option R) (part1 : List ByteArray) (whole2 : List ByteArray) (i3 : Int) : Option R :=
  (bif (decide (i3 < (part1.length : Int))) then (bif (decide (i3 ≥ (whole2.length : Int))) then kxr false else ix i3 part1.length (ix i3 whole2.length ((bif (!(decide ((part1.getD i3.toNat (str [])) = (whole2.getD i3.toNat (str []))))) then kxr false else J (w64 (i3 + (1 : Int))))))) else kx0)
def spec_l21Begins (n : Nat) (part0 : List ByteArray) (whole1 : List ByteArray) : Option Bool :=
  loopN (fun (x : Int) J' => spec_l21Begins_L2 n (some (true)) (fun t14 => some (t14)) J' part0 whole1 x) n ((0 : Int))
def spec_l21Copy (n : Nat) (p0 : SParty) : Option SParty :=
  chk (decide (p0.Sent.length * 16 ≤ 140737488355328)) (chk (decide (p0.Got.length * 16 ≤ 140737488355328)) (some (p0)))
def spec_Again21_L5 {R : Type} (n : Nat) (kx0 : List SPost → Option R) (J : Int → List SPost → Option R) (who4 : Int) (n5 : Int) (p6 : SParty) (out7 : List SPost) : Option R :=
  (bif (decide (n5 < (p6.Sent.length : Int))) then ix n5 p6.Sent.length ((bd (out7 ++ [(⟨who4, (w64 (n5 + (1 : Int))), (p6.Got.length : Int), (p6.Sent.getD n5.toNat (str []))⟩ : SPost)]) fun (l11 : List SPost) => chk (decide (l11.length * 40 ≤ 140737488355328)) (J (w64 (n5 + (1 : Int))) l11))) else kx0 out7)
def spec_Again21_k0 (n : Nat)  (who1 : Int) (p0 : SParty) : Option (List SPost × Bool) :=
  loopN (fun (x : Int × List SPost) J' => spec_Again21_L5 n (fun out12 => (bif (decide ((out12.length : Int) = (0 : Int))) then (bd (out12 ++ [(⟨who1, (0 : Int), (p0.Got.length : Int), str []⟩ : SPost)]) fun (l13 : List SPost) => chk (decide (l13.length * 40 ≤ 140737488355328)) (some (l13, true))) else some (out12, true))) (fun n16 out17 => J' (n16, out17)) who1 x.1 p0 x.2) n (p0.Acked, [])
def spec_Again21 (n : Nat) (p0 : SParty) (who1 : Int) : Option (List SPost × Bool) :=
  (spec_PartyOk n p0).bind fun r1 => (bif (!r1) then some ([], false) else (spec_l1In n who1 (0 : Int) (1 : Int)).bind fun r2 => (bif (!r2) then some ([], false) else spec_Again21_k0 n  who1 p0))
def spec_Take21_k0 (n : Nat)  (post2 : SPost) (t27 : List ByteArray) (t28 : List ByteArray) : Option (SParty × Bool) :=
  (bif (decide (post2.Number > (0 : Int))) then (bd (w64 (post2.Number - (1 : Int))) fun (v29 : Int) => (bif (decide (v29 = (t28.length : Int))) then (bif (decide ((t28.length : Int) < (200 : Int))) then chk (decide ((t28 ++ [post2.Text]).length * 16 ≤ 140737488355328)) (some ((⟨t27, post2.Ack, (t28 ++ [post2.Text])⟩ : SParty), true)) else some ((⟨t27, post2.Ack, t28⟩ : SParty), true)) else some ((⟨t27, post2.Ack, t28⟩ : SParty), true))) else some ((⟨t27, post2.Ack, t28⟩ : SParty), true))
def spec_Take21_k1 (n : Nat)  (post2 : SPost) (out51 : Int) (t52 : List ByteArray) (t53 : List ByteArray) : Option (SParty × Bool) :=
  (bif (decide (post2.Number > (0 : Int))) then (bd (w64 (post2.Number - (1 : Int))) fun (v54 : Int) => (bif (decide (v54 = (t53.length : Int))) then (bif (decide ((t53.length : Int) < (200 : Int))) then chk (decide ((t53 ++ [post2.Text]).length * 16 ≤ 140737488355328)) (some ((⟨t52, out51, (t53 ++ [post2.Text])⟩ : SParty), true)) else some ((⟨t52, out51, t53⟩ : SParty), true)) else some ((⟨t52, out51, t53⟩ : SParty), true))) else some ((⟨t52, out51, t53⟩ : SParty), true))
def spec_Take21 (n : Nat) (p0 : SParty) (who1 : Int) (post2 : SPost) : Option (SParty × Bool) :=
  (spec_l21Copy n p0).bind fun r1 => (spec_PartyOk n p0).bind fun r2 => (bif (!r2) then some (r1, false) else (spec_l1In n who1 (0 : Int) (1 : Int)).bind fun r6 => (bif (!r6) then some (r1, false) else (bif (!(decide (post2.From = (w64 ((1 : Int) - who1))))) then some (r1, false) else (bif (decide (post2.Number < (0 : Int))) then some (r1, false) else (spec_l1In n post2.Ack (0 : Int) (p0.Sent.length : Int)).bind fun r16 => (bif (!r16) then some (r1, false) else (bif (decide ((post2.Text.size : Int) > (40 : Int))) then some (r1, false) else (bif (decide (post2.Ack > r1.Acked)) then spec_Take21_k0 n  post2 r1.Sent r1.Got else spec_Take21_k1 n  post2 r1.Acked r1.Sent r1.Got)))))))
def spec_Settle21_k0 {R : Type} (n : Nat) (kx4 : Int → Int → List ByteArray → List ByteArray → Int → List ByteArray → List ByteArray → Option R) (J : Int → Int → Int → List ByteArray → List ByteArray → Int → List ByteArray → List ByteArray → Option R) (lost68 : List Bool) (rounds69 : Int) (coin113 : Int) (r71 : Int) (who72 : Int) (i114 : Int) (t74 : Int) (c75 : List ByteArray) (c76 : List ByteArray) (t77 : Int) (c78 : List ByteArray) (c79 : List ByteArray) (x115 : Int) (c116 : List ByteArray) (c117 : List ByteArray) (y118 : Int) (c119 : List ByteArray) (c120 : List ByteArray) (posts86 : List SPost) : Option R :=
  (bif (decide (who72 = (0 : Int))) then ix i114 posts86.length (chk (decide (i114.toNat < posts86.length)) ((bd (posts86.getD i114.toNat dSPost) fun (e121 : SPost) => (spec_Take21 n (⟨c119, y118, c120⟩ : SParty) (1 : Int) e121).bind fun r122 => J coin113 (w64 (i114 + (1 : Int))) x115 c116 c117 r122.1.Acked r122.1.Sent r122.1.Got))) else ix i114 posts86.length (chk (decide (i114.toNat < posts86.length)) ((bd (posts86.getD i114.toNat dSPost) fun (e131 : SPost) => (spec_Take21 n (⟨c116, x115, c117⟩ : SParty) (0 : Int) e131).bind fun r132 => J coin113 (w64 (i114 + (1 : Int))) r132.1.Acked r132.1.Sent r132.1.Got y118 c119 c120))))
def spec_Settle21_k1 {R : Type} (n : Nat) (kx4 : Int → Int → List ByteArray → List ByteArray → Int → List ByteArray → List ByteArray → Option R) (J : Int → Int → Int → List ByteArray → List ByteArray → Int → List ByteArray → List ByteArray → Option R) (lost68 : List Bool) (rounds69 : Int) (coin87 : Int) (r71 : Int) (who72 : Int) (i88 : Int) (t74 : Int) (c75 : List ByteArray) (c76 : List ByteArray) (t77 : Int) (c78 : List ByteArray) (c79 : List ByteArray) (x89 : Int) (c90 : List ByteArray) (c91 : List ByteArray) (y92 : Int) (c93 : List ByteArray) (c94 : List ByteArray) (posts86 : List SPost) : Option R :=
  (bif (decide (coin87 < (lost68.length : Int))) then ix coin87 lost68.length ((bd (w64 (coin87 + (1 : Int))) fun (v141 : Int) => (bif (lost68.getD coin87.toNat false) then J v141 (w64 (i88 + (1 : Int))) x89 c90 c91 y92 c93 c94 else spec_Settle21_k0 n kx4 J lost68 rounds69 v141 r71 who72 i88 t74 c75 c76 t77 c78 c79 x89 c90 c91 y92 c93 c94 posts86))) else (bd (w64 (coin87 + (1 : Int))) fun (v175 : Int) => spec_Settle21_k0 n kx4 J lost68 rounds69 v175 r71 who72 i88 t74 c75 c76 t77 c78 c79 x89 c90 c91 y92 c93 c94 posts86))
def spec_Settle21_L16 {R : Type} (n : Nat) (kx4 : Int → Int → List ByteArray → List ByteArray → Int → List ByteArray → List ByteArray → Option R) (J : Int → Int → Int → List ByteArray → List ByteArray → Int → List ByteArray → List ByteArray → Option R) (lost68 : List Bool) (rounds69 : Int) (coin70 : Int) (r71 : Int) (who72 : Int) (i73 : Int) (t74 : Int) (c75 : List ByteArray) (c76 : List ByteArray) (t77 : Int) (c78 : List ByteArray) (c79 : List ByteArray) (x80 : Int) (c81 : List ByteArray) (c82 : List ByteArray) (y83 : Int) (c84 : List ByteArray) (c85 : List ByteArray) (posts86 : List SPost) : Option R :=
  (bif (decide (i73 < (posts86.length : Int))) then spec_Settle21_k1 n kx4 J lost68 rounds69 coin70 r71 who72 i73 t74 c75 c76 t77 c78 c79 x80 c81 c82 y83 c84 c85 posts86 else kx4 coin70 x80 c81 c82 y83 c84 c85)
def spec_Settle21_k2 {R : Type} (n : Nat) (kx2 : Int → Int → List ByteArray → List ByteArray → Int → List ByteArray → List ByteArray → Option R) (J : Int → Int → Int → List ByteArray → List ByteArray → Int → List ByteArray → List ByteArray → Option R) (lost33 : List Bool) (rounds34 : Int) (coin58 : Int) (r36 : Int) (who59 : Int) (t38 : Int) (c39 : List ByteArray) (c40 : List ByteArray) (t41 : Int) (c42 : List ByteArray) (c43 : List ByteArray) (x60 : Int) (c61 : List ByteArray) (c62 : List ByteArray) (y63 : Int) (c64 : List ByteArray) (c65 : List ByteArray) (from66 : Int) : Option R :=
  (spec_Again21 n (⟨c64, from66, c65⟩ : SParty) who59).bind fun r67 => loopN (fun (x : Int × Int × Int × List ByteArray × List ByteArray × Int × List ByteArray × List ByteArray) J' => spec_Settle21_L16 n (fun coin184 x185 c186 c187 y188 c189 c190 => (bd (w64 (who59 + (1 : Int))) fun (v200 : Int) => J coin184 v200 x185 c186 c187 y188 c189 c190)) (fun coin201 i202 x203 c204 c205 y206 c207 c208 => J' (coin201, i202, x203, c204, c205, y206, c207, c208)) lost33 rounds34 x.1 r36 who59 x.2.1 t38 c39 c40 t41 c42 c43 x.2.2.1 x.2.2.2.1 x.2.2.2.2.1 x.2.2.2.2.2.1 x.2.2.2.2.2.2.1 x.2.2.2.2.2.2.2 r67.1) n (coin58, (0 : Int), x60, c61, c62, y63, c64, c65)
def spec_Settle21_k3 {R : Type} (n : Nat) (kx2 : Int → Int → List ByteArray → List ByteArray → Int → List ByteArray → List ByteArray → Option R) (J : Int → Int → Int → List ByteArray → List ByteArray → Int → List ByteArray → List ByteArray → Option R) (lost33 : List Bool) (rounds34 : Int) (coin209 : Int) (r36 : Int) (who210 : Int) (t38 : Int) (c39 : List ByteArray) (c40 : List ByteArray) (t41 : Int) (c42 : List ByteArray) (c43 : List ByteArray) (x211 : Int) (c212 : List ByteArray) (c213 : List ByteArray) (y214 : Int) (c215 : List ByteArray) (c216 : List ByteArray) (from217 : Int) : Option R :=
  (spec_Again21 n (⟨c212, from217, c213⟩ : SParty) who210).bind fun r218 => loopN (fun (x : Int × Int × Int × List ByteArray × List ByteArray × Int × List ByteArray × List ByteArray) J' => spec_Settle21_L16 n (fun coin219 x220 c221 c222 y223 c224 c225 => (bd (w64 (who210 + (1 : Int))) fun (v234 : Int) => J coin219 v234 x220 c221 c222 y223 c224 c225)) (fun coin235 i236 x237 c238 c239 y240 c241 c242 => J' (coin235, i236, x237, c238, c239, y240, c241, c242)) lost33 rounds34 x.1 r36 who210 x.2.1 t38 c39 c40 t41 c42 c43 x.2.2.1 x.2.2.2.1 x.2.2.2.2.1 x.2.2.2.2.2.1 x.2.2.2.2.2.2.1 x.2.2.2.2.2.2.2 r218.1) n (coin209, (0 : Int), x211, c212, c213, y214, c215, c216)
def spec_Settle21_L9 {R : Type} (n : Nat) (kx2 : Int → Int → List ByteArray → List ByteArray → Int → List ByteArray → List ByteArray → Option R) (J : Int → Int → Int → List ByteArray → List ByteArray → Int → List ByteArray → List ByteArray → Option R) (lost33 : List Bool) (rounds34 : Int) (coin35 : Int) (r36 : Int) (who37 : Int) (t38 : Int) (c39 : List ByteArray) (c40 : List ByteArray) (t41 : Int) (c42 : List ByteArray) (c43 : List ByteArray) (x44 : Int) (c45 : List ByteArray) (c46 : List ByteArray) (y47 : Int) (c48 : List ByteArray) (c49 : List ByteArray) : Option R :=
  (bif (decide (who37 < (2 : Int))) then (bif (decide (who37 = (1 : Int))) then spec_Settle21_k2 n kx2 J lost33 rounds34 coin35 r36 who37 t38 c39 c40 t41 c42 c43 x44 c45 c46 y47 c48 c49 y47 else spec_Settle21_k3 n kx2 J lost33 rounds34 coin35 r36 who37 t38 c39 c40 t41 c42 c43 x44 c45 c46 y47 c48 c49 x44) else kx2 coin35 x44 c45 c46 y47 c48 c49)
def spec_Settle21_k4 {R : Type} (n : Nat) (kx0 : Int → List ByteArray → List ByteArray → Int → List ByteArray → List ByteArray → Option R) (J : Int → Int → Int → List ByteArray → List ByteArray → Int → List ByteArray → List ByteArray → Option R) (lost9 : List Bool) (rounds10 : Int) (coin25 : Int) (r26 : Int) (t13 : Int) (c14 : List ByteArray) (c15 : List ByteArray) (t16 : Int) (c17 : List ByteArray) (c18 : List ByteArray) (x27 : Int) (c28 : List ByteArray) (c29 : List ByteArray) (y30 : Int) (c31 : List ByteArray) (c32 : List ByteArray) : Option R :=
  loopN (fun (x : Int × Int × Int × List ByteArray × List ByteArray × Int × List ByteArray × List ByteArray) J' => spec_Settle21_L9 n (fun coin261 x262 c263 c264 y265 c266 c267 => J coin261 (w64 (r26 + (1 : Int))) x262 c263 c264 y265 c266 c267) (fun coin268 who269 x270 c271 c272 y273 c274 c275 => J' (coin268, who269, x270, c271, c272, y273, c274, c275)) lost9 rounds10 x.1 r26 x.2.1 t13 c14 c15 t16 c17 c18 x.2.2.1 x.2.2.2.1 x.2.2.2.2.1 x.2.2.2.2.2.1 x.2.2.2.2.2.2.1 x.2.2.2.2.2.2.2) n (coin25, (0 : Int), x27, c28, c29, y30, c31, c32)
def spec_Settle21_L6 {R : Type} (n : Nat) (kx0 : Int → List ByteArray → List ByteArray → Int → List ByteArray → List ByteArray → Option R) (J : Int → Int → Int → List ByteArray → List ByteArray → Int → List ByteArray → List ByteArray → Option R) (lost9 : List Bool) (rounds10 : Int) (coin11 : Int) (r12 : Int) (t13 : Int) (c14 : List ByteArray) (c15 : List ByteArray) (t16 : Int) (c17 : List ByteArray) (c18 : List ByteArray) (x19 : Int) (c20 : List ByteArray) (c21 : List ByteArray) (y22 : Int) (c23 : List ByteArray) (c24 : List ByteArray) : Option R :=
  (bif (decide (r12 < rounds10)) then spec_Settle21_k4 n kx0 J lost9 rounds10 coin11 r12 t13 c14 c15 t16 c17 c18 x19 c20 c21 y22 c23 c24 else kx0 x19 c20 c21 y22 c23 c24)
def spec_Settle21_k5 (n : Nat)  (lost2 : List Bool) (rounds3 : Int) (a0 : SParty) (b1 : SParty) : Option (SParty × SParty × Bool) :=
  (spec_l21Copy n a0).bind fun r7 => (spec_l21Copy n b1).bind fun r8 => loopN (fun (x : Int × Int × Int × List ByteArray × List ByteArray × Int × List ByteArray × List ByteArray) J' => spec_Settle21_L6 n (fun x276 c277 c278 y279 c280 c281 => (bif (decide ((c278.length : Int) = (c280.length : Int))) then some ((⟨c277, x276, c278⟩ : SParty), (⟨c280, y279, c281⟩ : SParty), (decide ((c281.length : Int) = (c277.length : Int)))) else some ((⟨c277, x276, c278⟩ : SParty), (⟨c280, y279, c281⟩ : SParty), false))) (fun coin295 r296 x297 c298 c299 y300 c301 c302 => J' (coin295, r296, x297, c298, c299, y300, c301, c302)) lost2 rounds3 x.1 x.2.1 (0 : Int) [] [] (0 : Int) [] [] x.2.2.1 x.2.2.2.1 x.2.2.2.2.1 x.2.2.2.2.2.1 x.2.2.2.2.2.2.1 x.2.2.2.2.2.2.2) n ((0 : Int), (0 : Int), r7.Acked, r7.Sent, r7.Got, r8.Acked, r8.Sent, r8.Got)
def spec_Settle21 (n : Nat) (a0 : SParty) (b1 : SParty) (lost2 : List Bool) (rounds3 : Int) : Option (SParty × SParty × Bool) :=
  (spec_PartyOk n a0).bind fun r1 => (bif (!r1) then some ((⟨[], (0 : Int), []⟩ : SParty), (⟨[], (0 : Int), []⟩ : SParty), false) else (spec_PartyOk n b1).bind fun r2 => (bif (!r2) then some ((⟨[], (0 : Int), []⟩ : SParty), (⟨[], (0 : Int), []⟩ : SParty), false) else (spec_l21Begins n a0.Got b1.Sent).bind fun r3 => (bif (!r3) then some ((⟨[], (0 : Int), []⟩ : SParty), (⟨[], (0 : Int), []⟩ : SParty), false) else (spec_l21Begins n b1.Got a0.Sent).bind fun r4 => (bif (!r4) then some ((⟨[], (0 : Int), []⟩ : SParty), (⟨[], (0 : Int), []⟩ : SParty), false) else (bif (decide (a0.Acked > (b1.Got.length : Int))) then some ((⟨[], (0 : Int), []⟩ : SParty), (⟨[], (0 : Int), []⟩ : SParty), false) else (bif (decide (b1.Acked > (a0.Got.length : Int))) then some ((⟨[], (0 : Int), []⟩ : SParty), (⟨[], (0 : Int), []⟩ : SParty), false) else (bif (decide ((lost2.length : Int) > (2000 : Int))) then some ((⟨[], (0 : Int), []⟩ : SParty), (⟨[], (0 : Int), []⟩ : SParty), false) else (spec_l1In n rounds3 (0 : Int) (50 : Int)).bind fun r5 => (bif (!r5) then some ((⟨[], (0 : Int), []⟩ : SParty), (⟨[], (0 : Int), []⟩ : SParty), false) else spec_Settle21_k5 n  lost2 rounds3 a0 b1))))))))
def impl_shortTexts_1 (n : Nat) (s0 : ByteArray) : Option Bool :=
  some ((decide ((s0.size : Int) > (40 : Int))))
def slices_IndexFunc_string_string__impl_shortTexts_1_L2 {R : Type} (n : Nat) (kx0 : Option R) (kxr : Int → Option R) (J : Int → Option R) (s1 : List ByteArray) (t2 : Int) (t3 : Int) : Option R :=
  (bif (decide (t3 < t2)) then ix t3 s1.length ((impl_shortTexts_1 n (s1.getD t3.toNat (str []))).bind fun r7 => (bif r7 then kxr t3 else J (w64 (t3 + (1 : Int))))) else kx0)
def slices_IndexFunc_string_string__impl_shortTexts_1 (n : Nat) (s0 : List ByteArray) : Option Int :=
  loopN (fun (x : Int) J' => slices_IndexFunc_string_string__impl_shortTexts_1_L2 n (some ((-1 : Int))) (fun t9 => some (t9)) J' s0 (s0.length : Int) x) n ((0 : Int))
def slices_ContainsFunc_string_string__impl_shortTexts_1 (n : Nat) (s0 : List ByteArray) : Option Bool :=
  (slices_IndexFunc_string_string__impl_shortTexts_1 n s0).bind fun r1 => some ((decide (r1 ≥ (0 : Int))))
def impl_shortTexts (n : Nat) (l0 : List ByteArray) : Option Bool :=
  (bif (decide ((l0.length : Int) ≤ (200 : Int))) then (slices_ContainsFunc_string_string__impl_shortTexts_1 n l0).bind fun r1 => some ((!r1)) else some (false))
def impl_in (n : Nat) (n0 : Int) (least1 : Int) (most2 : Int) : Option Bool :=
  (bif (decide (n0 ≥ least1)) then some ((decide (n0 ≤ most2))) else some (false))
def impl_PartyOk (n : Nat) (p0 : SParty) : Option Bool :=
  (impl_shortTexts n p0.Sent).bind fun r1 => (bif r1 then (impl_shortTexts n p0.Got).bind fun r2 => (bif r2 then (impl_in n p0.Acked (0 : Int) (p0.Sent.length : Int)).bind fun r3 => some (r3) else some (false)) else some (false))
def slices_Equal_string_string_L4 {R : Type} (n : Nat) (kx0 : Option R) (kxr : Bool → Option R) (J : Int → Option R) (s13 : List ByteArray) (s24 : List ByteArray) (t5 : Int) (t6 : Int) : Option R :=
  (bif (decide (t6 < t5)) then ix t6 s13.length (ix t6 s24.length ((bif (!(decide ((s13.getD t6.toNat (str [])) = (s24.getD t6.toNat (str []))))) then kxr false else J (w64 (t6 + (1 : Int)))))) else kx0)
def slices_Equal_string_string (n : Nat) (s10 : List ByteArray) (s21 : List ByteArray) : Option Bool :=
  (bif (!(decide ((s10.length : Int) = (s21.length : Int)))) then some (false) else loopN (fun (x : Int) J' => slices_Equal_string_string_L4 n (some (true)) (fun t12 => some (t12)) J' s10 s21 (s10.length : Int) x) n ((0 : Int)))
def impl_begins (n : Nat) (a0 : List ByteArray) (b1 : List ByteArray) : Option Bool :=
  (bif (decide ((a0.length : Int) ≤ (b1.length : Int))) then chk (decide ((0 : Int) ≤ (a0.length : Int))) (chk (decide ((a0.length : Int) ≤ (b1.length : Int))) ((slices_Equal_string_string n a0 (b1.take ((a0.length : Int).toNat))).bind fun r1 => some (r1))) else some (false))
def impl_own_string (n : Nat) (l0 : List ByteArray) : Option (List ByteArray) :=
  chk (decide ((0 : Int) ≤ (l0.length : Int))) (chk (decide ((l0.length : Int) ≤ 9223372036854775807 ∧ (l0.length : Int) * (16 : Int) ≤ 281474976710656)) (chk (decide (l0.length * 16 ≤ 140737488355328)) (some (l0))))
def impl_Party_own (n : Nat) (p0 : SParty) : Option SParty :=
  (impl_own_string n p0.Sent).bind fun r1 => (impl_own_string n p0.Got).bind fun r2 => some ((⟨r1, p0.Acked, r2⟩ : SParty))
def impl_own_impl_Post (n : Nat) (l0 : List SPost) : Option (List SPost) :=
  chk (decide ((0 : Int) ≤ (l0.length : Int))) (chk (decide ((l0.length : Int) ≤ 9223372036854775807 ∧ (l0.length : Int) * (40 : Int) ≤ 281474976710656)) (chk (decide (l0.length * 40 ≤ 140737488355328)) (some (l0))))
def impl_Again21_L5 {R : Type} (n : Nat) (kx0 : List SPost → Option R) (J : Int → List SPost → Option R) (who4 : Int) (i5 : Int) (p6 : SParty) (out7 : List SPost) : Option R :=
  (bif (decide (i5 < (p6.Sent.length : Int))) then ix i5 p6.Sent.length ((bd (out7 ++ [(⟨who4, (w64 (i5 + (1 : Int))), (p6.Got.length : Int), (p6.Sent.getD i5.toNat (str []))⟩ : SPost)]) fun (l11 : List SPost) => chk (decide (l11.length * 40 ≤ 140737488355328)) (J (w64 (i5 + (1 : Int))) l11))) else kx0 out7)
def impl_Again21_k0 (n : Nat)  (who1 : Int) (p0 : SParty) : Option (List SPost × Bool) :=
  loopN (fun (x : Int × List SPost) J' => impl_Again21_L5 n (fun out12 => (bif (decide ((out12.length : Int) = (0 : Int))) then (impl_own_impl_Post n [(⟨who1, (0 : Int), (p0.Got.length : Int), str []⟩ : SPost)]).bind fun r15 => some (r15, true) else (impl_own_impl_Post n out12).bind fun r18 => some (r18, true))) (fun i19 out20 => J' (i19, out20)) who1 x.1 p0 x.2) n (p0.Acked, [])
def impl_Again21 (n : Nat) (p0 : SParty) (who1 : Int) : Option (List SPost × Bool) :=
  (impl_PartyOk n p0).bind fun r1 => (bif (!r1) then some ([], false) else (impl_in n who1 (0 : Int) (1 : Int)).bind fun r2 => (bif (!r2) then some ([], false) else impl_Again21_k0 n  who1 p0))
def impl_Take21_k0 (n : Nat)  (post2 : SPost) (x24 : Int) (t25 : List ByteArray) (t26 : List ByteArray) : Option (SParty × Bool) :=
  (bd (w64 ((t26.length : Int) + (1 : Int))) fun (v27 : Int) => (bif (decide (post2.Number = v27)) then (bif (decide ((t26.length : Int) < (200 : Int))) then chk (decide ((t26 ++ [post2.Text]).length * 16 ≤ 140737488355328)) ((impl_own_string n (t26 ++ [post2.Text])).bind fun r39 => some ((⟨t25, (if post2.Ack > x24 then post2.Ack else x24), r39⟩ : SParty), true)) else some ((⟨t25, (if post2.Ack > x24 then post2.Ack else x24), t26⟩ : SParty), true)) else some ((⟨t25, (if post2.Ack > x24 then post2.Ack else x24), t26⟩ : SParty), true)))
def impl_Take21 (n : Nat) (p0 : SParty) (who1 : Int) (post2 : SPost) : Option (SParty × Bool) :=
  (impl_Party_own n p0).bind fun r1 => (impl_PartyOk n p0).bind fun r2 => (bif (!r2) then some (r1, false) else (impl_in n who1 (0 : Int) (1 : Int)).bind fun r6 => (bif (!r6) then some (r1, false) else (bif (!(decide (post2.From = (w64 ((1 : Int) - who1))))) then some (r1, false) else (bif (decide (post2.Number < (0 : Int))) then some (r1, false) else (impl_in n post2.Ack (0 : Int) (p0.Sent.length : Int)).bind fun r16 => (bif (!r16) then some (r1, false) else (bif (decide ((post2.Text.size : Int) > (40 : Int))) then some (r1, false) else impl_Take21_k0 n  post2 r1.Acked r1.Sent r1.Got))))))
def impl_Settle21_1_k0 {R : Type} (n : Nat) (kx0 : Int → List ByteArray → List ByteArray → Int → Option R) (J : Int → Int → Int → List ByteArray → List ByteArray → Option R) (who2 : Int) (t3 : List Bool) (t4 : Int) (t14 : Int) (p15 : Int) (to16 : Int) (c17 : List ByteArray) (c18 : List ByteArray) (t10 : Int) (c11 : List ByteArray) (c12 : List ByteArray) (t13 : List SPost) : Option R :=
  ix t14 t13.length (chk (decide (t14.toNat < t13.length)) ((bd (t13.getD t14.toNat dSPost) fun (e19 : SPost) => (bif (decide (p15 ≥ (t3.length : Int))) then (impl_Take21 n (⟨c17, to16, c18⟩ : SParty) (w64 ((1 : Int) - who2)) e19).bind fun r42 => J (w64 (t14 + (1 : Int))) (w64 (p15 + (1 : Int))) r42.1.Acked r42.1.Sent r42.1.Got else ix p15 t3.length ((bif (!(t3.getD p15.toNat false)) then (impl_Take21 n (⟨c17, to16, c18⟩ : SParty) (w64 ((1 : Int) - who2)) e19).bind fun r86 => J (w64 (t14 + (1 : Int))) (w64 (p15 + (1 : Int))) r86.1.Acked r86.1.Sent r86.1.Got else J (w64 (t14 + (1 : Int))) (w64 (p15 + (1 : Int))) to16 c17 c18))))))
def impl_Settle21_1_L3 {R : Type} (n : Nat) (kx0 : Int → List ByteArray → List ByteArray → Int → Option R) (J : Int → Int → Int → List ByteArray → List ByteArray → Option R) (who2 : Int) (t3 : List Bool) (t4 : Int) (t5 : Int) (p6 : Int) (to7 : Int) (c8 : List ByteArray) (c9 : List ByteArray) (t10 : Int) (c11 : List ByteArray) (c12 : List ByteArray) (t13 : List SPost) : Option R :=
  (bif (decide (t5 < t4)) then impl_Settle21_1_k0 n kx0 J who2 t3 t4 t5 p6 to7 c8 c9 t10 c11 c12 t13 else kx0 to7 c8 c9 p6)
def impl_Settle21_1 (n : Nat) (from0 : SParty) (who1 : Int) (to2 : SParty) (a3 : Int) (a4 : List Bool) : Option (SParty × Int) :=
  (impl_Again21 n from0 who1).bind fun r1 => loopN (fun (x : Int × Int × Int × List ByteArray × List ByteArray) J' => impl_Settle21_1_L3 n (fun to107 c108 c109 p110 => some ((⟨c108, to107, c109⟩ : SParty), p110)) (fun t111 p112 to113 c114 c115 => J' (t111, p112, to113, c114, c115)) who1 a4 (r1.1.length : Int) x.1 x.2.1 x.2.2.1 x.2.2.2.1 x.2.2.2.2 (0 : Int) [] [] r1.1) n ((0 : Int), a3, to2.Acked, to2.Sent, to2.Got)
def impl_Settle21_k0 {R : Type} (n : Nat) (kx0 : Int → List ByteArray → List ByteArray → Int → List ByteArray → List ByteArray → Option R) (J : Int → Int → List ByteArray → List ByteArray → Int → List ByteArray → List ByteArray → Int → Option R) (t9 : Int) (t25 : Int) (a26 : Int) (c27 : List ByteArray) (c28 : List ByteArray) (b29 : Int) (c30 : List ByteArray) (c31 : List ByteArray) (t17 : Int) (c18 : List ByteArray) (c19 : List ByteArray) (t20 : Int) (c21 : List ByteArray) (c22 : List ByteArray) (coin32 : Int) (lost24 : List Bool) : Option R :=
  (impl_Settle21_1 n (⟨c27, a26, c28⟩ : SParty) (0 : Int) (⟨c30, b29, c31⟩ : SParty) coin32 lost24).bind fun r33 => (impl_Settle21_1 n r33.1 (1 : Int) (⟨c27, a26, c28⟩ : SParty) r33.2 lost24).bind fun r34 => J (w64 (t25 + (1 : Int))) r34.1.Acked r34.1.Sent r34.1.Got r33.1.Acked r33.1.Sent r33.1.Got r34.2
def impl_Settle21_L7 {R : Type} (n : Nat) (kx0 : Int → List ByteArray → List ByteArray → Int → List ByteArray → List ByteArray → Option R) (J : Int → Int → List ByteArray → List ByteArray → Int → List ByteArray → List ByteArray → Int → Option R) (t9 : Int) (t10 : Int) (a11 : Int) (c12 : List ByteArray) (c13 : List ByteArray) (b14 : Int) (c15 : List ByteArray) (c16 : List ByteArray) (t17 : Int) (c18 : List ByteArray) (c19 : List ByteArray) (t20 : Int) (c21 : List ByteArray) (c22 : List ByteArray) (coin23 : Int) (lost24 : List Bool) : Option R :=
  (bif (decide (t10 < t9)) then impl_Settle21_k0 n kx0 J t9 t10 a11 c12 c13 b14 c15 c16 t17 c18 c19 t20 c21 c22 coin23 lost24 else kx0 a11 c12 c13 b14 c15 c16)
def impl_Settle21_k1 (n : Nat)  (rounds3 : Int) (a0 : SParty) (b1 : SParty) (lost2 : List Bool) : Option (SParty × SParty × Bool) :=
  (impl_Party_own n a0).bind fun r7 => (impl_Party_own n b1).bind fun r8 => loopN (fun (x : Int × Int × List ByteArray × List ByteArray × Int × List ByteArray × List ByteArray × Int) J' => impl_Settle21_L7 n (fun a35 c36 c37 b38 c39 c40 => (slices_Equal_string_string n c37 c39).bind fun r41 => (bif r41 then (slices_Equal_string_string n c40 c36).bind fun r42 => some ((⟨c36, a35, c37⟩ : SParty), (⟨c39, b38, c40⟩ : SParty), r42) else some ((⟨c36, a35, c37⟩ : SParty), (⟨c39, b38, c40⟩ : SParty), false))) (fun t56 a57 c58 c59 b60 c61 c62 coin63 => J' (t56, a57, c58, c59, b60, c61, c62, coin63)) rounds3 x.1 x.2.1 x.2.2.1 x.2.2.2.1 x.2.2.2.2.1 x.2.2.2.2.2.1 x.2.2.2.2.2.2.1 (0 : Int) [] [] (0 : Int) [] [] x.2.2.2.2.2.2.2 lost2) n ((0 : Int), r7.Acked, r7.Sent, r7.Got, r8.Acked, r8.Sent, r8.Got, (0 : Int))
def impl_Settle21 (n : Nat) (a0 : SParty) (b1 : SParty) (lost2 : List Bool) (rounds3 : Int) : Option (SParty × SParty × Bool) :=
  (impl_PartyOk n a0).bind fun r1 => (bif (!r1) then some ((⟨[], (0 : Int), []⟩ : SParty), (⟨[], (0 : Int), []⟩ : SParty), false) else (impl_PartyOk n b1).bind fun r2 => (bif (!r2) then some ((⟨[], (0 : Int), []⟩ : SParty), (⟨[], (0 : Int), []⟩ : SParty), false) else (impl_begins n a0.Got b1.Sent).bind fun r3 => (bif (!r3) then some ((⟨[], (0 : Int), []⟩ : SParty), (⟨[], (0 : Int), []⟩ : SParty), false) else (impl_begins n b1.Got a0.Sent).bind fun r4 => (bif (!r4) then some ((⟨[], (0 : Int), []⟩ : SParty), (⟨[], (0 : Int), []⟩ : SParty), false) else (bif (decide (a0.Acked > (b1.Got.length : Int))) then some ((⟨[], (0 : Int), []⟩ : SParty), (⟨[], (0 : Int), []⟩ : SParty), false) else (bif (decide (b1.Acked > (a0.Got.length : Int))) then some ((⟨[], (0 : Int), []⟩ : SParty), (⟨[], (0 : Int), []⟩ : SParty), false) else (bif (decide ((lost2.length : Int) > (2000 : Int))) then some ((⟨[], (0 : Int), []⟩ : SParty), (⟨[], (0 : Int), []⟩ : SParty), false) else (impl_in n rounds3 (0 : Int) (50 : Int)).bind fun r5 => (bif (!r5) then some ((⟨[], (0 : Int), []⟩ : SParty), (⟨[], (0 : Int), []⟩ : SParty), false) else impl_Settle21_k1 n  rounds3 a0 b1 lost2))))))))
def laws_eqStringS_L4 {R : Type} (n : Nat) (kx0 : Option R) (kxr : Bool → Option R) (J : Int → Option R) (a1 : List ByteArray) (b2 : List ByteArray) (i3 : Int) : Option R :=
  (bif (decide (i3 < (a1.length : Int))) then ix i3 a1.length (ix i3 b2.length ((bif (!(decide ((a1.getD i3.toNat (str [])) = (b2.getD i3.toNat (str []))))) then kxr false else J (w64 (i3 + (1 : Int)))))) else kx0)
def laws_eqStringS (n : Nat) (a0 : List ByteArray) (b1 : List ByteArray) : Option Bool :=
  (bif (!(decide ((a0.length : Int) = (b1.length : Int)))) then some (false) else loopN (fun (x : Int) J' => laws_eqStringS_L4 n (some (true)) (fun t9 => some (t9)) J' a0 b1 x) n ((0 : Int)))
def laws_eqParty (n : Nat) (a0 : SParty) (b1 : SParty) : Option Bool :=
  (laws_eqStringS n a0.Sent b1.Sent).bind fun r1 => (bif (!r1) then some (false) else (bif (!(decide (a0.Acked = b1.Acked))) then some (false) else (laws_eqStringS n a0.Got b1.Got).bind fun r4 => (bif (!r4) then some (false) else some (true))))
def laws_eqBoolS_L4 {R : Type} (n : Nat) (kx0 : Option R) (kxr : Bool → Option R) (J : Int → Option R) (a1 : List Bool) (b2 : List Bool) (i3 : Int) : Option R :=
  (bif (decide (i3 < (a1.length : Int))) then ix i3 a1.length (ix i3 b2.length ((bif (!((a1.getD i3.toNat false) == (b2.getD i3.toNat false))) then kxr false else J (w64 (i3 + (1 : Int)))))) else kx0)
def laws_eqBoolS (n : Nat) (a0 : List Bool) (b1 : List Bool) : Option Bool :=
  (bif (!(decide ((a0.length : Int) = (b1.length : Int)))) then some (false) else loopN (fun (x : Int) J' => laws_eqBoolS_L4 n (some (true)) (fun t9 => some (t9)) J' a0 b1 x) n ((0 : Int)))
def laws_markText_L4 {R : Type} (n : Nat) (kx0 : ByteArray → Option R) (J : Int → ByteArray → Option R) (k2 : Int) (out3 : ByteArray) : Option R :=
  (bif (decide (k2 > (0 : Int))) then (bd (w64 ((48 : Int) + (Int.tmod k2 (10 : Int)))) fun (v8 : Int) => chk (decide ((((bstr [(wu8 v8)]).size + out3.size : Nat) : Int) ≤ 9223372036854775807)) ((bd (w64 (Int.tdiv k2 (10 : Int))) fun (v9 : Int) => J v9 ((bstr [(wu8 v8)]) ++ out3)))) else kx0 out3)
def laws_markText (n : Nat) (k0 : Int) : Option ByteArray :=
  (bif (decide (k0 ≤ (0 : Int))) then some (str [109, 48]) else loopN (fun (x : Int × ByteArray) J' => laws_markText_L4 n (fun out13 => chk (decide ((((str [109]).size + out13.size : Nat) : Int) ≤ 9223372036854775807)) (some ((str [109] ++ out13)))) (fun k14 out15 => J' (k14, out15)) x.1 x.2) n (k0, str []))
def laws_markStringS_L2 {R : Type} (n : Nat) (kx0 : Int → List ByteArray → Option R) (J : Int → Int → List ByteArray → Option R) (k1 : Int) (i2 : Int) (p3 : List ByteArray) : Option R :=
  (bif (decide (i2 < (p3.length : Int))) then (laws_markText n k1).bind fun r8 => ix i2 p3.length (chk (decide (i2.toNat < p3.length)) (J (w64 (k1 + (1 : Int))) (w64 (i2 + (1 : Int))) (p3.set i2.toNat r8))) else kx0 k1 p3)
def laws_markStringS (n : Nat) (a0 : List ByteArray) (k1 : Int) : Option (Int × List ByteArray) :=
  loopN (fun (x : Int × Int × List ByteArray) J' => laws_markStringS_L2 n (fun k9 p10 => some (k9, p10)) (fun k11 i12 p13 => J' (k11, i12, p13)) x.1 x.2.1 x.2.2) n (k1, (0 : Int), a0)
def laws_markParty (n : Nat) (a0 : SParty) (k1 : Int) : Option (Int × List ByteArray × List ByteArray) :=
  (laws_markStringS n a0.Sent k1).bind fun r1 => (laws_markStringS n a0.Got r1.1).bind fun r2 => some (r2.1, r1.2, r2.2)
def laws_markBoolS_L2 {R : Type} (n : Nat) (kx0 : Int → List Bool → Option R) (J : Int → Int → List Bool → Option R) (k1 : Int) (i2 : Int) (p3 : List Bool) : Option R :=
  (bif (decide (i2 < (p3.length : Int))) then ix i2 p3.length (chk (decide (i2.toNat < p3.length)) ((bd (p3.set i2.toNat (decide ((Int.tmod k1 (3 : Int)) = (0 : Int)))) fun (l8 : List Bool) => J (w64 (k1 + (1 : Int))) (w64 (i2 + (1 : Int))) l8))) else kx0 k1 p3)
def laws_markBoolS (n : Nat) (a0 : List Bool) (k1 : Int) : Option (Int × List Bool) :=
  loopN (fun (x : Int × Int × List Bool) J' => laws_markBoolS_L2 n (fun k9 p10 => some (k9, p10)) (fun k11 i12 p13 => J' (k11, i12, p13)) x.1 x.2.1 x.2.2) n (k1, (0 : Int), a0)
def laws_heldStringS_L2 {R : Type} (n : Nat) (kx0 : Int → Option R) (kxr : Int → Option R) (J : Int → Int → Option R) (a1 : List ByteArray) (k2 : Int) (i3 : Int) : Option R :=
  (bif (decide (i3 < (a1.length : Int))) then ix i3 a1.length ((laws_markText n k2).bind fun r13 => (bif (!(decide ((a1.getD i3.toNat (str [])) = r13))) then kxr (-1 : Int) else J (w64 (k2 + (1 : Int))) (w64 (i3 + (1 : Int))))) else kx0 k2)
def laws_heldStringS (n : Nat) (a0 : List ByteArray) (k1 : Int) : Option Int :=
  loopN (fun (x : Int × Int) J' => laws_heldStringS_L2 n (fun k18 => some (k18)) (fun t19 => some (t19)) (fun k20 i21 => J' (k20, i21)) a0 x.1 x.2) n (k1, (0 : Int))
def laws_heldParty (n : Nat) (a0 : SParty) (k1 : Int) : Option Int :=
  (laws_heldStringS n a0.Sent k1).bind fun r1 => (bif (decide (r1 < (0 : Int))) then some ((-1 : Int)) else (laws_heldStringS n a0.Got r1).bind fun r5 => (bif (decide (r5 < (0 : Int))) then some ((-1 : Int)) else some (r5)))
def laws_FnExactSettle21_k0 (n : Nat)  (m315 : Int) (g0316 : Int) (t317 : List ByteArray) (t318 : List ByteArray) (g1319 : Int) (t320 : List ByteArray) (t321 : List ByteArray) : Option Bool :=
  (laws_heldParty n (⟨t317, g0316, t318⟩ : SParty) (1 : Int)).bind fun r322 => (bif (decide (r322 < (0 : Int))) then some (false) else (laws_heldParty n (⟨t320, g1319, t321⟩ : SParty) r322).bind fun r331 => (bif (decide (r331 < (0 : Int))) then some (false) else (bif (!(decide (r331 = m315))) then some (false) else some (true))))
def laws_FnExactSettle21_k1 (n : Nat)  (aLost2 : List Bool) (aRounds3 : Int) (w2273 : Bool) (m274 : Int) (aA0 : SParty) (aB1 : SParty) (w0275 : Int) (t276 : List ByteArray) (t277 : List ByteArray) (w1278 : Int) (t279 : List ByteArray) (t280 : List ByteArray) (g0281 : Int) (t282 : List ByteArray) (t283 : List ByteArray) (g1284 : Int) (t285 : List ByteArray) (t286 : List ByteArray) : Option Bool :=
  (laws_toParty n aA0).bind fun r287 => (laws_toParty n aB1).bind fun r288 => (laws_toBoolS n aLost2).bind fun r289 => (impl_Settle21 n r287 r288 r289 aRounds3).bind fun r290 => (laws_eqParty n r290.1 (⟨t276, w0275, t277⟩ : SParty)).bind fun r291 => (bif (!r291) then some (false) else (laws_eqParty n r290.2.1 (⟨t279, w1278, t280⟩ : SParty)).bind fun r299 => (bif (!r299) then some (false) else (bif (!(r290.2.2 == w2273)) then some (false) else laws_FnExactSettle21_k0 n  m274 g0281 t282 t283 g1284 t285 t286)))
def laws_FnExactSettle21_k2 (n : Nat)  (aLost2 : List Bool) (aRounds3 : Int) (w2242 : Bool) (m243 : Int) (q244 : Int) (aA0 : SParty) (aB1 : SParty) (w0245 : Int) (t246 : List ByteArray) (t247 : List ByteArray) (w1248 : Int) (t249 : List ByteArray) (t250 : List ByteArray) (g0251 : Int) (t252 : List ByteArray) (t253 : List ByteArray) (g1254 : Int) (t255 : List ByteArray) (t256 : List ByteArray) : Option Bool :=
  (laws_heldParty n (⟨t255, g1254, t256⟩ : SParty) q244).bind fun r257 => (bif (decide (r257 < (0 : Int))) then some (false) else (bif (!(decide (r257 = m243))) then some (false) else laws_FnExactSettle21_k1 n  aLost2 aRounds3 w2242 m243 aA0 aB1 w0245 t246 t247 w1248 t249 t250 g0251 t252 t253 g1254 t255 t256))
def laws_FnExactSettle21_k3 (n : Nat)  (aLost2 : List Bool) (aRounds3 : Int) (w2226 : Bool) (aA0 : SParty) (aB1 : SParty) (w0227 : Int) (t228 : List ByteArray) (t229 : List ByteArray) (w1230 : Int) (t231 : List ByteArray) (t232 : List ByteArray) (g0233 : Int) (t234 : List ByteArray) (t235 : List ByteArray) (g1236 : Int) (t237 : List ByteArray) (t238 : List ByteArray) : Option Bool :=
  (laws_markParty n (⟨t234, g0233, t235⟩ : SParty) (1 : Int)).bind fun r239 => (laws_markParty n (⟨t237, g1236, t238⟩ : SParty) r239.1).bind fun r240 => (laws_heldParty n (⟨r239.2.1, g0233, r239.2.2⟩ : SParty) (1 : Int)).bind fun r241 => (bif (decide (r241 < (0 : Int))) then some (false) else laws_FnExactSettle21_k2 n  aLost2 aRounds3 w2226 r240.1 r241 aA0 aB1 w0227 t228 t229 w1230 t231 t232 g0233 r239.2.1 r239.2.2 g1236 r240.2.1 r240.2.2)
def laws_FnExactSettle21_k4 (n : Nat)  (aLost2 : List Bool) (aRounds3 : Int) (w2147 : Bool) (g2148 : Bool) (aA0 : SParty) (aB1 : SParty) (w0149 : Int) (t150 : List ByteArray) (t151 : List ByteArray) (w1152 : Int) (t153 : List ByteArray) (t154 : List ByteArray) (x0155 : Int) (t156 : List ByteArray) (t157 : List ByteArray) (x1158 : Int) (t159 : List ByteArray) (t160 : List ByteArray) (t161 : List Bool) (g0162 : Int) (t163 : List ByteArray) (t164 : List ByteArray) (g1165 : Int) (t166 : List ByteArray) (t167 : List ByteArray) : Option Bool :=
  (laws_markParty n (⟨t156, x0155, t157⟩ : SParty) (1 : Int)).bind fun r168 => (laws_markParty n (⟨t159, x1158, t160⟩ : SParty) r168.1).bind fun r169 => (laws_markBoolS n t161 r169.1).bind fun r170 => (bif (decide (r170.1 < (0 : Int))) then some (false) else (laws_eqParty n (⟨t163, g0162, t164⟩ : SParty) (⟨t150, w0149, t151⟩ : SParty)).bind fun r184 => (bif (!r184) then some (false) else (laws_eqParty n (⟨t166, g1165, t167⟩ : SParty) (⟨t153, w1152, t154⟩ : SParty)).bind fun r198 => (bif (!r198) then some (false) else (bif (!(g2148 == w2147)) then some (false) else laws_FnExactSettle21_k3 n  aLost2 aRounds3 w2147 aA0 aB1 w0149 t150 t151 w1152 t153 t154 g0162 t163 t164 g1165 t166 t167))))
def laws_FnExactSettle21_k5 (n : Nat)  (aLost2 : List Bool) (aRounds3 : Int) (w2101 : Bool) (g2102 : Bool) (aA0 : SParty) (aB1 : SParty) (w0103 : Int) (t104 : List ByteArray) (t105 : List ByteArray) (w1106 : Int) (t107 : List ByteArray) (t108 : List ByteArray) (x0109 : Int) (t110 : List ByteArray) (t111 : List ByteArray) (x1112 : Int) (t113 : List ByteArray) (t114 : List ByteArray) (t115 : List Bool) (g0116 : Int) (t117 : List ByteArray) (t118 : List ByteArray) (g1119 : Int) (t120 : List ByteArray) (t121 : List ByteArray) : Option Bool :=
  (laws_toParty n aB1).bind fun r122 => (laws_eqParty n (⟨t113, x1112, t114⟩ : SParty) r122).bind fun r123 => (bif (!r123) then some (false) else (laws_toBoolS n aLost2).bind fun r368 => (laws_eqBoolS n t115 r368).bind fun r369 => (bif (!r369) then some (false) else laws_FnExactSettle21_k4 n  aLost2 aRounds3 w2101 g2102 aA0 aB1 w0103 t104 t105 w1106 t107 t108 x0109 t110 t111 x1112 t113 t114 t115 g0116 t117 t118 g1119 t120 t121))
def laws_FnExactSettle21_k6 (n : Nat)  (aLost2 : List Bool) (aRounds3 : Int) (w256 : Bool) (g257 : Bool) (t58 : Bool) (aA0 : SParty) (aB1 : SParty) (w059 : Int) (t60 : List ByteArray) (t61 : List ByteArray) (w162 : Int) (t63 : List ByteArray) (t64 : List ByteArray) (x065 : Int) (t66 : List ByteArray) (t67 : List ByteArray) (x168 : Int) (t69 : List ByteArray) (t70 : List ByteArray) (t71 : List Bool) (g072 : Int) (t73 : List ByteArray) (t74 : List ByteArray) (g175 : Int) (t76 : List ByteArray) (t77 : List ByteArray) : Option Bool :=
  (bif t58 then some (false) else (laws_toParty n aA0).bind fun r391 => (laws_eqParty n (⟨t66, x065, t67⟩ : SParty) r391).bind fun r392 => (bif (!r392) then some (false) else laws_FnExactSettle21_k5 n  aLost2 aRounds3 w256 g257 aA0 aB1 w059 t60 t61 w162 t63 t64 x065 t66 t67 x168 t69 t70 t71 g072 t73 t74 g175 t76 t77))
def laws_FnExactSettle21_k7 (n : Nat)  (aLost2 : List Bool) (aRounds3 : Int) (aA0 : SParty) (aB1 : SParty) : Option Bool :=
  (laws_toParty n aA0).bind fun r4 => (laws_toParty n aB1).bind fun r5 => (laws_toBoolS n aLost2).bind fun r6 => (spec_Settle21 n r4 r5 r6 aRounds3).bind fun r7 => (laws_toParty n aA0).bind fun r8 => (laws_toParty n aB1).bind fun r9 => (laws_toBoolS n aLost2).bind fun r10 => (impl_Settle21 n r8 r9 r10 aRounds3).bind fun r11 => (laws_eqParty n r11.1 r7.1).bind fun r12 => (bif (!r12) then some (false) else (laws_eqParty n r11.2.1 r7.2.1).bind fun r34 => (bif (!r34) then some (false) else laws_FnExactSettle21_k6 n  aLost2 aRounds3 r7.2.2 r11.2.2 (!(r11.2.2 == r7.2.2)) aA0 aB1 r7.1.Acked r7.1.Sent r7.1.Got r7.2.1.Acked r7.2.1.Sent r7.2.1.Got r8.Acked r8.Sent r8.Got r9.Acked r9.Sent r9.Got r10 r11.1.Acked r11.1.Sent r11.1.Got r11.2.1.Acked r11.2.1.Sent r11.2.1.Got))
def laws_FnExactSettle21 (n : Nat) (aA0 : SParty) (aB1 : SParty) (aLost2 : List Bool) (aRounds3 : Int) : Option Bool :=
  (bif (decide ((aLost2.length : Int) > (1048576 : Int))) then some (true) else (laws_szParty n aA0 (1048576 : Int)).bind fun r415 => (bif (decide (r415 < (0 : Int))) then some (true) else (laws_szParty n aB1 r415).bind fun r417 => (bif (decide (r417 < (0 : Int))) then some (true) else laws_FnExactSettle21_k7 n  aLost2 aRounds3 aA0 aB1)))
def rng (a b x : Int) : Prop := a ≤ x ∧ x ≤ b
def wfSParty (x : SParty) : Prop := (x.Sent.length ≤ 9223372036854775807 ∧ ∀ y ∈ x.Sent, y.size ≤ 9223372036854775807) ∧ rng (-9223372036854775808) 9223372036854775807 x.Acked ∧ (x.Got.length ≤ 9223372036854775807 ∧ ∀ y ∈ x.Got, y.size ≤ 9223372036854775807)
def wfSPost (x : SPost) : Prop := rng (-9223372036854775808) 9223372036854775807 x.From ∧ rng (-9223372036854775808) 9223372036854775807 x.Number ∧ rng (-9223372036854775808) 9223372036854775807 x.Ack ∧ x.Text.size ≤ 9223372036854775807
end Go.Sm
end

section
set_option linter.unusedSimpArgs false
set_option linter.deprecated false
set_option linter.unusedSectionVars false
set_option linter.unusedVariables false
namespace Go.Sm
/-! ### Of the words that printed functions are made of -/
theorem w64_id {x : Int} (h1 : -9223372036854775808 ≤ x) (h2 : x ≤ 9223372036854775807) : w64 x = x := by
  show (let m := x % (2 ^ 64 : Int); if (true && decide ((2 : Int) ^ 63 ≤ m)) = true then m - 2 ^ 64 else m) = x
  simp only [Bool.true_and, decide_eq_true_eq]
  split <;> omega
theorem w64_rng (x : Int) : -9223372036854775808 ≤ w64 x ∧ w64 x ≤ 9223372036854775807 := by
  show -9223372036854775808 ≤ (let m := x % (2 ^ 64 : Int); if (true && decide ((2 : Int) ^ 63 ≤ m)) = true then m - 2 ^ 64 else m) ∧ (let m := x % (2 ^ 64 : Int); if (true && decide ((2 : Int) ^ 63 ≤ m)) = true then m - 2 ^ 64 else m) ≤ 9223372036854775807
  simp only [Bool.true_and, decide_eq_true_eq]
  split <;> omega
theorem chk_of {R : Type} {b : Bool} {x : Option R} (h : b = true) : chk b x = x := by rw [h]; rfl
theorem chk_true {R : Type} {x : Option R} : chk true x = x := rfl
theorem chk_dec {R : Type} {p : Prop} [Decidable p] {x : Option R} (h : p) : chk (decide p) x = x := chk_of (decide_eq_true h)
theorem ix_of {R : Type} {i : Int} {len : Nat} {x : Option R} (h0 : 0 ≤ i) (h1 : i < (len : Int)) : ix i len x = x := by
  unfold ix
  rw [decide_eq_true h0, decide_eq_true h1]
  rfl
theorem ix_nat {R : Type} {i len : Nat} {x : Option R} (h1 : i < len) : ix (i : Int) len x = x := ix_of (by omega) (by omega)
theorem bif_dec {α : Type} {p : Prop} [Decidable p] {x y : α} : (bif decide p then x else y) = if p then x else y := by
  by_cases h : p <;> simp [h]
theorem bif_not {α : Type} {b : Bool} {x y : α} : (bif !b then x else y) = bif b then y else x := by cases b <;> rfl
theorem bif_and {α : Type} {a b : Bool} {x y : α} : (bif a && b then x else y) = bif a then (bif b then x else y) else y := by cases a <;> rfl
theorem loopN_succ {X R : Type} (b : X → (X → Option R) → Option R) (m : Nat) (x : X) : loopN b (m + 1) x = b x (loopN b m) := rfl
/-- What holds of a loop: by what is left to go. -/
theorem loopN_ind {X R : Type} {b : X → (X → Option R) → Option R} (μ : X → Nat) (I : X → Prop) (Q : X → Option R → Prop)
    (h : ∀ x J, I x → (∀ y, I y → μ y < μ x → Q y (J y)) → Q x (b x J)) : ∀ n x, I x → μ x < n → Q x (loopN b n x)
  | 0, x, hi, hm => absurd hm (Nat.not_lt_zero _)
  | n + 1, x, hi, hm => h x (loopN b n) hi fun y hy hl => loopN_ind μ I Q h n y hy (by omega)
theorem getD_eq {α : Type} {l : List α} {i : Nat} {d : α} (h : i < l.length) : l.getD i d = l[i] := by
  simp [List.getD, h]
theorem w64_succ {k : Nat} (h : k < 9223372036854775807) : w64 ((k : Int) + 1) = ((k + 1 : Nat) : Int) := by
  rw [w64_id (by omega) (by omega)]
  rfl
theorem take_succ_getD {α : Type} {l : List α} {i : Nat} {d : α} (h : i < l.length) : l.take (i + 1) = l.take i ++ [l.getD i d] := by
  rw [List.take_succ, getD_eq h, List.getElem?_eq_getElem h]
  rfl
theorem drop_getD {α : Type} {l : List α} {i : Nat} {d : α} (h : i < l.length) : l.drop i = l.getD i d :: l.drop (i + 1) := by
  rw [getD_eq h]
  exact List.drop_eq_getElem_cons h
theorem bd_eq {α β : Type} (e : α) (f : α → β) : bd e f = f e := rfl
theorem bd_set {α β : Type} {Q : β → Prop} {F : List α → β} {p : List α} {i : Nat} {x : α} (h : ∀ l : List α, l.length = p.length → Q (F l)) : Q (bd (p.set i x) F) := h _ (by simp)
theorem bd_is {α β : Type} {Q : β → Prop} {F : α → β} {e : α} (h : ∀ v : α, v = e → Q (F v)) : Q (bd e F) := h _ rfl
theorem bd_val {α β : Type} {Q : β → Prop} {F : α → β} {e : α} (h : ∀ v : α, Q (F v)) : Q (bd e F) := h _
theorem chk_q {R : Type} {Q : Option R → Prop} {b : Bool} {x : Option R} (h : b = true) (hx : Q x) : Q (chk b x) := by rw [chk_of h]; exact hx
theorem ix_q {R : Type} {Q : Option R → Prop} {i : Int} {len : Nat} {x : Option R} (h0 : 0 ≤ i) (h1 : i < (len : Int)) (hx : Q x) : Q (ix i len x) := by rw [ix_of h0 h1]; exact hx
theorem bd_upd {α β : Type} {Q : β → Prop} {F : List α → β} {p : List α} {i : Nat} {x d : α} (hi : i < p.length) (h : ∀ l : List α, l.length = p.length → l.getD i d = x → (∀ j, j ≠ i → l.getD j d = p.getD j d) → Q (F l)) : Q (bd (p.set i x) F) :=
  h _ (by simp) (by simp [List.getD, hi]) (fun j hj => by simp [List.getD, List.getElem?_set, Ne.symm hj])
/-- A list written from the front. -/
theorem set_take {α : Type} {a : List α} {d : α} {m k : Nat} (h : k < a.length) (hm : m = a.length := by rfl) : (a.take k ++ (List.replicate m d).drop k).set k (a.getD k d) = a.take (k + 1) ++ (List.replicate m d).drop (k + 1) := by
  subst hm
  have h1 : (a.take k).length = k := by simp; omega
  rw [List.set_append_right _ _ (by omega), h1, Nat.sub_self, take_succ_getD h, List.append_assoc]
  congr 1
  rw [List.drop_eq_getElem_cons (by simp; exact h)]
  rfl
/-! ### Loops over 0 .. len, by what is left -/
/-- Steps k, k+1, .. told one after the other; J: what comes behind a step. -/
def forK {S R : Type} (step : Nat → S → (S → Option R) → Option R) (fin : S → Option R) : Nat → Nat → S → Option R
  | 0, _, s => fin s
  | m + 1, k, s => step k s fun s' => forK step fin m (k + 1) s'
theorem loop_forK {X S R : Type} {b : X → (X → Option R) → Option R} {enc : Nat → S → X} {len : Nat} {step : Nat → S → (S → Option R) → Option R} {fin : S → Option R} (I : Nat → S → Prop)
    (hstep : ∀ k s J J', k < len → I k s → (∀ s', I (k + 1) s' → J (enc (k + 1) s') = J' s') → b (enc k s) J = step k s J') (hfin : ∀ s J, I len s → b (enc len s) J = fin s) :
    ∀ m k s n, k + m = len → m < n → I k s → loopN b n (enc k s) = forK step fin m k s
  | 0, k, s, 0, _, h, _ => absurd h (Nat.lt_irrefl _)
  | 0, k, s, n + 1, hk, _, hi => by
    have hk : k = len := by omega
    subst hk
    exact hfin s _ hi
  | m + 1, k, s, 0, _, h, _ => absurd h (Nat.not_lt_zero _)
  | m + 1, k, s, n + 1, hk, hn, hi => by
    show b (enc k s) (loopN b n) = step k s fun s' => forK step fin m (k + 1) s'
    exact hstep k s _ _ (by omega) hi fun s' hi' => loop_forK I hstep hfin m (k + 1) s' n (by omega) (by omega) hi'
/-- The first k at which f answers; at none: z. -/
def scanK {R : Type} (f : Nat → Option (Option R)) (z : Option R) : Nat → Nat → Option R
  | 0, _ => z
  | m + 1, k => match f k with
    | some r => r
    | none => scanK f z m (k + 1)
theorem loop_scan {X R : Type} {b : X → (X → Option R) → Option R} {enc : Nat → X} {len : Nat} {f : Nat → Option (Option R)} {z : Option R}
    (hstep : ∀ k J, k < len → b (enc k) J = match f k with | some r => r | none => J (enc (k + 1))) (hfin : ∀ J, b (enc len) J = z) :
    ∀ m k n, k + m = len → m < n → loopN b n (enc k) = scanK f z m k
  | 0, k, 0, _, h => absurd h (Nat.lt_irrefl _)
  | 0, k, n + 1, hk, _ => by
    have hk : k = len := by omega
    subst hk
    exact hfin _
  | m + 1, k, 0, _, h => absurd h (Nat.not_lt_zero _)
  | m + 1, k, n + 1, hk, hn => by
    show b (enc k) (loopN b n) = _
    rw [hstep k _ (by omega)]
    unfold scanK
    cases f k with
    | some r => rfl
    | none => exact loop_scan hstep hfin m (k + 1) n (by omega) (by omega)
/-- Is p so of all of k, .. k + m - 1? -/
theorem scan_all {R : Type} {p : Nat → Bool} {r z : Option R} : ∀ m k, scanK (fun k => bif p k then none else some r) z m k = bif (List.range' k m).all p then z else r
  | 0, k => rfl
  | m + 1, k => by
    rw [scanK, List.range'_succ, List.all_cons]
    cases h : p k with
    | true => simp only [cond_true, Bool.true_and]; exact scan_all m (k + 1)
    | false => rfl
theorem scan_any {R : Type} {p : Nat → Bool} {r z : Option R} : ∀ m k, scanK (fun k => bif p k then some r else none) z m k = bif (List.range' k m).any p then r else z
  | 0, k => rfl
  | m + 1, k => by
    rw [scanK, List.range'_succ, List.any_cons]
    cases h : p k with
    | false => simp only [cond_false, Bool.false_or]; exact scan_any m (k + 1)
    | true => rfl
theorem mgetI_mputI {β : Type} (l : List (Int × β)) (n m : Int) (v : β) : mgetI (mputI l n v) m = if m = n then some v else mgetI l m := by
  unfold mgetI mputI
  induction l with
  | nil =>
    by_cases h : m = n <;> simp [h]
  | cons a l ih =>
    rw [List.findIdx?_cons]
    by_cases h : n = a.1
    · simp only [h, decide_true, if_true, Option.elim_some, List.set_cons_zero, List.find?_cons]
      by_cases h2 : m = a.1
      · simp [h2]
      · simp [h2]
    · simp only [h, decide_false, Bool.false_eq_true, if_false]
      cases hf : l.findIdx? (fun e => decide (n = e.1)) with
      | none =>
        rw [hf] at ih
        simp only [Option.elim_none] at ih
        simp only [Option.map_none, Option.elim_none, List.cons_append, List.find?_cons]
        by_cases h2 : m = a.1
        · have : m ≠ n := fun e => h (e ▸ h2)
          simp [h2]
          simp [h2] at this
          simp [this]
        · simp only [h2, decide_false]
          exact ih
      | some i =>
        rw [hf] at ih
        simp only [Option.elim_some] at ih
        simp only [Option.map_some, Option.elim_some, List.set_cons_succ, List.find?_cons]
        by_cases h2 : m = a.1
        · have : m ≠ n := fun e => h (e ▸ h2)
          simp [h2]
          simp [h2] at this
          simp [this]
        · simp only [h2, decide_false]
          exact ih
theorem mgetI_nil {β : Type} (m : Int) : mgetI ([] : List (Int × β)) m = none := rfl
/-! ### Chains of tests -/
theorem bif_and' {α : Type} {a b : Bool} {x y : α} : (bif a then (bif b then x else y) else y) = bif a && b then x else y := by cases a <;> rfl
theorem bif_or' {α : Type} {a b : Bool} {x y : α} : (bif a then y else (bif b then x else y)) = bif !a && b then x else y := by cases a <;> rfl
theorem bif_and2 {α : Type} {a b : Bool} {x y : α} : (bif a then (bif b then y else x) else y) = bif a && !b then x else y := by cases a <;> cases b <;> rfl
theorem bif_or2 {α : Type} {a b : Bool} {x y : α} : (bif a then y else (bif b then y else x)) = bif !a && !b then x else y := by cases a <;> cases b <;> rfl
theorem bif_some {α β : Type} {a : Bool} {x y : α} {f : α → Option β} : (bif a then some x else some y).bind f = bif a then f x else f y := by cases a <;> rfl
theorem bif_tf {a : Bool} : (bif a then some true else some false) = some a := by cases a <;> rfl
theorem bif_ft {a : Bool} : (bif a then some false else some true) = some (!a) := by cases a <;> rfl
theorem bif_sf {a b : Bool} : (bif a then some b else some false) = some (a && b) := by cases a <;> rfl
theorem all_range_succ {p : Nat → Bool} {k : Nat} : (List.range (k + 1)).all p = ((List.range k).all p && p k) := by
  rw [List.range_succ, List.all_append]
  simp
theorem any_range_succ {p : Nat → Bool} {k : Nat} : (List.range (k + 1)).any p = ((List.range k).any p || p k) := by
  rw [List.range_succ, List.any_append]
  simp
theorem all_range_not {p : Nat → Bool} {k m : Nat} (hk : k < m) (h : p k = false) : (List.range m).all p = false := by
  rw [Bool.eq_false_iff]
  intro e
  rw [List.all_eq_true] at e
  rw [e k (List.mem_range.2 hk)] at h
  cases h
theorem any_range_of {p : Nat → Bool} {k m : Nat} (hk : k < m) (h : p k = true) : (List.range m).any p = true := by
  rw [List.any_eq_true]
  exact ⟨k, List.mem_range.2 hk, h⟩
/-- A loop that looks at k = 0, 1, .. and leaves at the first that is not so. -/
theorem loop_all {R : Type} {b : Int → (Int → Option R) → Option R} {len : Nat} {p : Nat → Bool} {no yes : Option R} (hlen : len ≤ 9223372036854775807)
    (hstep : ∀ (k : Nat) (J : Int → Option R), k < len → (∀ j, j < k → p j = true) → b (k : Int) J = bif p k then J ((k + 1 : Nat) : Int) else no) (hfin : ∀ J, (∀ j, j < len → p j = true) → b (len : Int) J = yes) {n : Nat} (hn : len < n) :
    loopN b n (0 : Int) = bif (List.range len).all p then yes else no := by
  refine loopN_ind (fun x => len - x.toNat) (fun x => ∃ k : Nat, k ≤ len ∧ x = (k : Int) ∧ (List.range k).all p = true) (fun x r => r = bif (List.range len).all p then yes else no) ?_ n _ ⟨0, by omega, rfl, rfl⟩ (by simp; omega)
  rintro _ J ⟨k, hk, rfl, hb⟩ ih
  have hb' : ∀ j, j < k → p j = true := fun j hj => List.all_eq_true.1 hb j (List.mem_range.2 hj)
  by_cases h : k < len
  · rw [hstep k J h hb']
    cases hp : p k with
    | true => exact ih _ ⟨k + 1, h, rfl, by rw [all_range_succ, hb, hp]; rfl⟩ (by simp; omega)
    | false => rw [all_range_not h hp]; rfl
  · have : k = len := by omega
    subst this
    rw [hfin _ hb', hb]
    rfl
/-- The same, a state turned on the way (its invariant: I). -/
theorem loop_allS {S R : Type} {X : Type} {enc : Int → S → X} {b : X → (X → Option R) → Option R} {len : Nat} {p : Nat → Bool} {I : Nat → S → Prop} {no yes : Option R}
    (hstep : ∀ (k : Nat) (s : S) (J : X → Option R), k < len → I k s → (∀ j, j < k → p j = true) → ∃ s', (p k = true → I (k + 1) s') ∧ b (enc (k : Int) s) J = bif p k then J (enc ((k + 1 : Nat) : Int) s') else no) (hfin : ∀ s J, I len s → (∀ j, j < len → p j = true) → b (enc (len : Int) s) J = yes) {n : Nat} (hn : len < n) {s0 : S} (h0 : I 0 s0) :
    loopN b n (enc (0 : Int) s0) = bif (List.range len).all p then yes else no := by
  have key : ∀ m (k : Nat) (s : S) n, k + m = len → m < n → I k s → (List.range k).all p = true → loopN b n (enc (k : Int) s) = bif (List.range len).all p then yes else no := by
    intro m
    induction m with
    | zero =>
      intro k s n hk hn hi hb
      have hb' : ∀ j, j < k → p j = true := fun j hj => List.all_eq_true.1 hb j (List.mem_range.2 hj)
      have hk : k = len := by omega
      subst hk
      cases n with
      | zero => omega
      | succ n => rw [loopN_succ, hfin s _ hi hb', hb]; rfl
    | succ m ih =>
      intro k s n hk hn hi hb
      have hb' : ∀ j, j < k → p j = true := fun j hj => List.all_eq_true.1 hb j (List.mem_range.2 hj)
      cases n with
      | zero => omega
      | succ n =>
        rw [loopN_succ]
        obtain ⟨s', h1, h2⟩ := hstep k s (loopN b n) (by omega) hi hb'
        rw [h2]
        cases hp : p k with
        | true => exact ih (k + 1) s' n (by omega) (by omega) (h1 hp) (by rw [all_range_succ, hb, hp]; rfl)
        | false => rw [all_range_not (by omega : k < len) hp]; rfl
  exact key len 0 s0 n (by omega) hn h0 rfl
/-- A loop over 0 .. len that never leaves early; its state: I. -/
theorem loop_runS {S R : Type} {X : Type} {enc : Int → S → X} {b : X → (X → Option R) → Option R} {len : Nat} {I : Nat → S → Prop} {Q : Option R → Prop}
    (hstep : ∀ (k : Nat) (s : S) (J : X → Option R), k < len → I k s → ∃ s', I (k + 1) s' ∧ b (enc (k : Int) s) J = J (enc ((k + 1 : Nat) : Int) s')) (hfin : ∀ s J, I len s → Q (b (enc (len : Int) s) J)) {n : Nat} (hn : len < n) {s0 : S} (h0 : I 0 s0) :
    Q (loopN b n (enc (0 : Int) s0)) := by
  have key : ∀ m (k : Nat) (s : S) n, k + m = len → m < n → I k s → Q (loopN b n (enc (k : Int) s)) := by
    intro m
    induction m with
    | zero =>
      intro k s n hk hn hi
      have hk : k = len := by omega
      subst hk
      cases n with
      | zero => omega
      | succ n => rw [loopN_succ]; exact hfin s _ hi
    | succ m ih =>
      intro k s n hk hn hi
      cases n with
      | zero => omega
      | succ n =>
        rw [loopN_succ]
        obtain ⟨s', h1, h2⟩ := hstep k s (loopN b n) (by omega) hi
        rw [h2]
        exact ih (k + 1) s' n (by omega) (by omega) h1
  exact key len 0 s0 n (by omega) hn h0
/-! ### Sums over lists -/
def sumOf {α : Type} (f : α → Nat) : List α → Nat
  | [] => 0
  | a :: l => f a + sumOf f l
theorem sumOf_append {α : Type} (f : α → Nat) : ∀ a b : List α, sumOf f (a ++ b) = sumOf f a + sumOf f b
  | [], b => by simp [sumOf]
  | x :: a, b => by simp only [List.cons_append, sumOf, sumOf_append f a b]; omega
theorem sumOf_take_succ {α : Type} {f : α → Nat} {l : List α} {k : Nat} {d : α} (h : k < l.length) : sumOf f (l.take (k + 1)) = sumOf f (l.take k) + f (l.getD k d) := by
  rw [take_succ_getD (d := d) h, sumOf_append]
  simp [sumOf]
theorem sumOf_take_le {α : Type} (f : α → Nat) (l : List α) (k : Nat) : sumOf f (l.take k) ≤ sumOf f l := by
  have := sumOf_append f (l.take k) (l.drop k)
  rw [List.take_append_drop] at this
  omega
theorem sumOf_mem {α : Type} {f : α → Nat} {l : List α} {k : Nat} {d : α} (h : k < l.length) : f (l.getD k d) ≤ sumOf f l := by
  have h1 := sumOf_take_succ (f := f) (d := d) h
  have h2 := sumOf_take_le f l (k + 1)
  omega
theorem sumOf_lin {α : Type} {f g : α → Nat} {c s : Nat} (h : ∀ y, f y ≤ c * g y + s) : ∀ l : List α, sumOf f l ≤ c * sumOf g l + s * l.length
  | [] => by simp [sumOf]
  | a :: l => by
    have h1 := h a
    have h2 := sumOf_lin h l
    simp only [sumOf, List.length_cons, Nat.mul_add, Nat.mul_succ]
    omega
theorem sumOf_const {α : Type} (c : Nat) : ∀ l : List α, sumOf (fun _ => c) l = c * l.length
  | [] => by simp [sumOf]
  | a :: l => by simp only [sumOf, sumOf_const c l, List.length_cons, Nat.mul_succ]; omega
theorem getD_set {α : Type} {l : List α} {k : Nat} {x d : α} (h : k < l.length) : (l.set k x).getD k d = x := by simp [List.getD, h]
theorem getD_set_ne {α : Type} {l : List α} {k j : Nat} {x d : α} (h : j ≠ k) : (l.set k x).getD j d = l.getD j d := by simp [List.getD, List.getElem?_set, Ne.symm h]
theorem getD_mem {α : Type} {l : List α} {k : Nat} {d : α} (h : k < l.length) : l.getD k d ∈ l := by rw [getD_eq h]; exact List.getElem_mem h
theorem take_drop_set {α : Type} {a : List α} {d : α} {m k : Nat} {x : α} (h : k < a.length) (hm : m = a.length) (hx : x = a.getD k d) : (a.take k ++ (List.replicate m d).drop k).set k x = a.take (k + 1) ++ (List.replicate m d).drop (k + 1) := by
  subst hx
  exact set_take h hm
/-! ### The first that is so -/
def idxOf (p : Nat → Bool) (m : Nat) : Int := match (List.range m).find? p with
  | some k => (k : Int)
  | none => -1
theorem find_range_none {p : Nat → Bool} {m : Nat} (h : ∀ j, j < m → p j = false) : (List.range m).find? p = none := by
  rw [List.find?_eq_none]
  intro x hx
  rw [h x (List.mem_range.1 hx)]
  simp
theorem find_range_some {p : Nat → Bool} {m k : Nat} (hk : k < m) (hp : p k = true) (h : ∀ j, j < k → p j = false) : (List.range m).find? p = some k := by
  have e : m = k + (m - k) := by omega
  rw [e, List.range_add, List.find?_append, find_range_none h, Option.none_or]
  obtain ⟨r, hr⟩ : ∃ r, m - k = r + 1 := ⟨m - k - 1, by omega⟩
  rw [hr, List.range_succ_eq_map]
  simp [hp]
theorem idxOf_ge (p : Nat → Bool) (m : Nat) : decide (idxOf p m ≥ 0) = (List.range m).any p := by
  unfold idxOf
  cases h : (List.range m).find? p with
  | none =>
    rw [List.find?_eq_none] at h
    rw [show (List.range m).any p = false from by rw [List.any_eq_false]; exact h]
    rfl
  | some k =>
    have h1 := List.find?_some h
    rw [show (List.range m).any p = true from List.any_eq_true.2 ⟨k, List.mem_of_find?_eq_some h, h1⟩]
    exact decide_eq_true (by show (0 : Int) ≤ (k : Int); omega)
theorem idxOf_lt (p : Nat → Bool) (m : Nat) : decide (idxOf p m < 0) = !(List.range m).any p := by
  rw [← idxOf_ge]
  by_cases h : idxOf p m < 0
  · rw [decide_eq_true h, decide_eq_false (by omega)]; rfl
  · rw [decide_eq_false h, decide_eq_true (by omega)]; rfl
theorem find_range (p : Nat → Bool) : ∀ m, ((List.range m).find? p = none ∧ ∀ j, j < m → p j = false) ∨ ∃ k, (List.range m).find? p = some k ∧ k < m ∧ p k = true ∧ ∀ j, j < k → p j = false
  | 0 => .inl ⟨rfl, fun j hj => absurd hj (Nat.not_lt_zero _)⟩
  | m + 1 => by
    rcases find_range p m with ⟨h1, h2⟩ | ⟨k, h1, h2, h3, h4⟩
    · cases hp : p m with
      | true => exact .inr ⟨m, find_range_some (by omega) hp h2, by omega, hp, h2⟩
      | false =>
        have : ∀ j, j < m + 1 → p j = false := fun j hj => by
          by_cases e : j = m
          · rw [e]; exact hp
          · exact h2 j (by omega)
        exact .inl ⟨find_range_none this, this⟩
    · exact .inr ⟨k, find_range_some (by omega) h3 h4, by omega, h3, h4⟩
theorem idxOf_spec (p : Nat → Bool) (m : Nat) : (idxOf p m = -1 ∧ ∀ j, j < m → p j = false) ∨ ∃ k : Nat, idxOf p m = (k : Int) ∧ k < m ∧ p k = true ∧ ∀ j, j < k → p j = false := by
  unfold idxOf
  rcases find_range p m with ⟨h1, h2⟩ | ⟨k, h1, h2, h3, h4⟩
  · rw [h1]; exact .inl ⟨rfl, h2⟩
  · rw [h1]; exact .inr ⟨k, rfl, h2, h3, h4⟩
/-- A loop that looks at k = 0, 1, .. and leaves at the first that is so. -/
theorem loop_find {R : Type} {b : Int → (Int → Option R) → Option R} {len : Nat} {p : Nat → Bool} {yes : Nat → Option R} {no : Option R} (hlen : len ≤ 9223372036854775807)
    (hstep : ∀ (k : Nat) (J : Int → Option R), k < len → (∀ j, j < k → p j = false) → b (k : Int) J = bif p k then yes k else J ((k + 1 : Nat) : Int)) (hfin : ∀ J, (∀ j, j < len → p j = false) → b (len : Int) J = no) {n : Nat} (hn : len < n) :
    loopN b n (0 : Int) = match (List.range len).find? p with | some k => yes k | none => no := by
  refine loopN_ind (fun x => len - x.toNat) (fun x => ∃ k : Nat, k ≤ len ∧ x = (k : Int) ∧ ∀ j, j < k → p j = false) (fun x r => r = match (List.range len).find? p with | some k => yes k | none => no) ?_ n _ ⟨0, by omega, rfl, fun j hj => absurd hj (Nat.not_lt_zero _)⟩ (by simp; omega)
  rintro _ J ⟨k, hk, rfl, hb⟩ ih
  by_cases h : k < len
  · rw [hstep k J h hb]
    cases hp : p k with
    | false => exact ih _ ⟨k + 1, h, rfl, fun j hj => by
        by_cases e : j = k
        · rw [e]; exact hp
        · exact hb j (by omega)⟩ (by simp; omega)
    | true => rw [find_range_some h hp hb]; rfl
  · have : k = len := by omega
    subst this
    rw [hfin _ hb, find_range_none hb]
theorem loop_idx {b : Int → (Int → Option Int) → Option Int} {len : Nat} {p : Nat → Bool} (hlen : len ≤ 9223372036854775807)
    (hstep : ∀ (k : Nat) (J : Int → Option Int), k < len → (∀ j, j < k → p j = false) → b (k : Int) J = bif p k then some (k : Int) else J ((k + 1 : Nat) : Int)) (hfin : ∀ J, (∀ j, j < len → p j = false) → b (len : Int) J = some (-1)) {n : Nat} (hn : len < n) :
    loopN b n (0 : Int) = some (idxOf p len) := by
  rw [loop_find (yes := fun k => some (k : Int)) (no := some (-1)) hlen hstep hfin hn]
  unfold idxOf
  cases (List.range len).find? p <;> rfl
theorem byteAt_rng (s : ByteArray) (k : Nat) : 0 ≤ byteAt s k ∧ byteAt s k ≤ 255 := by
  unfold byteAt
  have := (s.data.getD k 0).toNat_lt
  omega
theorem range_any {α : Type} {l : List α} {d : α} {f : α → Bool} : (List.range l.length).any (fun k => f (l.getD k d)) = l.any f := by
  induction l with
  | nil => rfl
  | cons a l ih =>
    rw [List.length_cons, List.range_succ_eq_map, List.any_cons, List.any_map, List.any_cons, ← ih]
    rfl
theorem range_all {α : Type} {l : List α} {d : α} {f : α → Bool} : (List.range l.length).all (fun k => f (l.getD k d)) = l.all f := by
  induction l with
  | nil => rfl
  | cons a l ih =>
    rw [List.length_cons, List.range_succ_eq_map, List.all_cons, List.all_map, List.all_cons, ← ih]
    rfl
theorem all_congr_lt {p q : Nat → Bool} {m : Nat} (h : ∀ k, k < m → p k = q k) : (List.range m).all p = (List.range m).all q := by
  rw [Bool.eq_iff_iff, List.all_eq_true, List.all_eq_true]
  constructor
  · intro g x hx; rw [← h x (List.mem_range.1 hx)]; exact g x hx
  · intro g x hx; rw [h x (List.mem_range.1 hx)]; exact g x hx
theorem any_congr_lt {p q : Nat → Bool} {m : Nat} (h : ∀ k, k < m → p k = q k) : (List.range m).any p = (List.range m).any q := by
  rw [Bool.eq_iff_iff, List.any_eq_true, List.any_eq_true]
  constructor
  · rintro ⟨x, hx, g⟩; exact ⟨x, hx, by rw [← h x (List.mem_range.1 hx)]; exact g⟩
  · rintro ⟨x, hx, g⟩; exact ⟨x, hx, by rw [h x (List.mem_range.1 hx)]; exact g⟩
theorem guard_sz {w : Nat} {x : Option Bool} (h : w ≤ 1048576 → x = some true) : (bif decide ((if (w : Int) ≤ 1048576 then 1048576 - (w : Int) else -1) < 0) then some true else x) = some true := by
  by_cases c : (w : Int) ≤ 1048576
  · rw [if_pos c, decide_eq_false (by omega), cond_false]
    exact h (by omega)
  · rw [if_neg c]
    rfl
end Go.Sm
end

section
set_option linter.unusedSimpArgs false
set_option linter.deprecated false
set_option linter.unusedSectionVars false
set_option linter.unusedVariables false
set_option linter.unusedSimpArgs false
namespace Go.Sm
attribute [local irreducible] bd chk ix loopN
theorem laws_markText_ok {n : Nat} (k : Int) (hk : k ≤ 1000000000) (hn : 1000000000 < n) : ∃ t, laws_markText n k = some t := by
  unfold laws_markText
  rw [bif_dec]
  split
  · exact ⟨_, rfl⟩
  · refine loopN_ind (fun x => x.1.toNat) (fun x => 0 ≤ x.1 ∧ x.1 + (x.2.size : Int) ≤ 1000000000) (fun x r => ∃ t, r = some t) ?_ n _ ⟨by omega, by show k + ((str []).size : Int) ≤ _; simp [str, ByteArray.size]; omega⟩ (by simp; omega)
    rintro ⟨k, out⟩ J ⟨h0, h1⟩ ih
    unfold laws_markText_L4
    dsimp only at h0 h1 ⊢
    have e1 : ∀ l : List Int, (bstr l).size = l.length := fun l => by simp [bstr, ByteArray.size]
    have e2 : (str [109]).size = 1 := rfl
    have e3 : k.tdiv 10 = k / 10 := Int.tdiv_eq_ediv_of_nonneg h0
    simp only [bd_eq]
    rw [bif_dec, e3]
    split
    · rw [e1, chk_dec (by simp; omega), w64_id (x := k / 10) (by omega) (by omega)]
      refine ih _ ⟨by dsimp only; omega, ?_⟩ (by dsimp only; omega)
      rw [ByteArray.size_append, e1]
      simp
      omega
    · rw [e2, chk_dec (by omega)]
      exact ⟨_, rfl⟩
theorem laws_markText_q {β : Type} {Q : Option β → Prop} {n : Nat} {k : Int} {F : ByteArray → Option β} (hk : k ≤ 1000000000) (hn : 1000000000 < n) (h : ∀ t, laws_markText n k = some t → Q (F t)) : Q ((laws_markText n k).bind F) := by
  obtain ⟨t, ht⟩ := laws_markText_ok (n := n) k hk hn
  rw [ht]
  exact h t ht
def w_LBA (a : List ByteArray) : Nat := a.length + sumOf (fun y => y.size) a
theorem laws_szStringS_ok {n : Nat} (a : List ByteArray) {left : Int} (h : (a.length ≤ 9223372036854775807 ∧ ∀ y ∈ a, y.size ≤ 9223372036854775807)) (h0 : 0 ≤ left) (h1 : left ≤ 1048576) (hn : 1000000000 < n) : laws_szStringS n a left = some (if (w_LBA a : Int) ≤ left then left - (w_LBA a : Int) else -1) := by
  have hw : w_LBA a = a.length + sumOf (fun y => y.size) a := rfl
  unfold laws_szStringS
  rw [w64_id (by have := h.1; omega) (by omega), bd_eq, bif_dec]
  by_cases c : (a.length : Int) ≤ left
  case neg => rw [if_pos (by omega), if_neg (by omega)]
  rw [if_neg (by omega)]
  refine loopN_ind (fun x => a.length - x.2.toNat) (fun x => ∃ k : Nat, k ≤ a.length ∧ x = (left - (a.length : Int) - (sumOf (fun y => y.size) (a.take k) : Int), (k : Int)) ∧ (sumOf (fun y => y.size) (a.take k) : Int) ≤ left - (a.length : Int))
    (fun x r => r = some (if (w_LBA a : Int) ≤ left then left - (w_LBA a : Int) else -1)) ?_ n _ ⟨0, by omega, by simp [sumOf], by simp [sumOf]; omega⟩ (by simp; omega)
  rintro _ J ⟨k, hk, rfl, hb⟩ ih
  unfold laws_szStringS_L5
  by_cases h2 : k < a.length
  · have s1 := sumOf_take_succ (f := fun y => y.size) (d := (str [])) h2
    have s2 := sumOf_take_le (fun y => y.size) a (k + 1)
    try simp only at s1
    simp only [Int.ofNat_lt, h2, decide_true, cond_true, ix_nat h2, Int.toNat_natCast, bd_eq]
    rw [w64_id (by have := h.2 _ (getD_mem (d := (str [])) h2); omega) (by omega), bif_dec]
    by_cases c2 : ((a.getD k (str [])).size : Int) ≤ left - (a.length : Int) - (sumOf (fun y => y.size) (a.take k) : Int)
    · rw [if_neg (by omega), w64_succ (by omega)]
      exact ih (_, ((k + 1 : Nat) : Int)) ⟨k + 1, h2, Prod.ext (by dsimp only; omega) rfl, by omega⟩ (by simp; omega)
    · rw [if_pos (by omega), if_neg (by omega)]
  · have : k = a.length := by omega
    subst this
    rw [List.take_length] at hb ⊢
    simp only [Int.lt_irrefl, decide_false, cond_false]
    rw [if_pos (by omega)]
    congr 1
    omega
def w_SParty (a : SParty) : Nat := w_LBA a.Sent + w_LBA a.Got
theorem laws_szParty_ok {n : Nat} (a : SParty) {left : Int} (h : wfSParty a) (h0 : 0 ≤ left) (h1 : left ≤ 1048576) (hn : 1000000000 < n) : laws_szParty n a left = some (if (w_SParty a : Int) ≤ left then left - (w_SParty a : Int) else -1) := by
  have hw : w_SParty a = w_LBA a.Sent + w_LBA a.Got := rfl
  unfold laws_szParty
  rw [laws_szStringS_ok (n := n) a.Sent h.1 (by omega) (by omega) hn, Option.bind_some, bif_dec]
  by_cases c0 : (w_LBA a.Sent : Int) ≤ left
  case neg => rw [if_neg c0, if_pos (by omega), if_neg (by omega)]
  rw [if_pos c0, if_neg (by omega)]
  rw [laws_szStringS_ok (n := n) a.Got h.2.2 (by omega) (by omega) hn, Option.bind_some, bif_dec]
  by_cases c1 : (w_LBA a.Got : Int) ≤ left - (w_LBA a.Sent : Int)
  case neg => rw [if_neg c1, if_pos (by omega), if_neg (by omega)]
  rw [if_pos c1, if_neg (by omega)]
  rw [if_pos (by omega)]
  try (refine congrArg some ?_; omega)
theorem laws_toStringS_ok {n : Nat} (a : List ByteArray) (hb : w_LBA a ≤ 100000000) (hn : 1000000000 < n) : laws_toStringS n a = some a := by
  have hw0 : a.length ≤ 100000000 := by have hw : w_LBA a = a.length + sumOf (fun y => y.size) a := rfl; omega
  unfold laws_toStringS
  rw [chk_dec (by omega), chk_dec (by omega), chk_dec (by omega)]
  refine loopN_ind (fun x => a.length - x.1.toNat) (fun x => ∃ k : Nat, k ≤ a.length ∧ x = ((k : Int), a.take k ++ (List.replicate a.length (str [])).drop k)) (fun x r => r = some a) ?_ n _ ⟨0, by omega, by simp⟩ (by simp; omega)
  rintro _ J ⟨k, hk, rfl⟩ ih
  unfold laws_toStringS_L3
  dsimp only
  have hl : (a.take k ++ (List.replicate a.length (str [])).drop k).length = a.length := by simp; omega
  by_cases h : k < a.length
  · have g := ih (((k + 1 : Nat) : Int), a.take (k + 1) ++ (List.replicate a.length (str [])).drop (k + 1)) ⟨k + 1, h, rfl⟩ (by simp; omega)
    have s1 := sumOf_mem (f := fun y => y.size) (d := (str [])) h
    have hw : w_LBA a = a.length + sumOf (fun y => y.size) a := rfl
    try simp only at s1
    have hk2 : k < (a.take k ++ (List.replicate a.length (str [])).drop k).length := by omega
    simp only [Int.ofNat_lt, h, hk2, decide_true, cond_true, ix_nat h, ix_nat hk2, chk_of, bd_eq, Option.bind_some, Int.toNat_natCast, w64_succ (show k < 9223372036854775807 by omega)]
    rw [take_drop_set (d := (str [])) h rfl rfl]
    exact g
  · have : k = a.length := by omega
    subst this
    simp
theorem laws_toParty_ok {n : Nat} (a : SParty) (h : w_SParty a ≤ 100000000) (hn : 1000000000 < n) : laws_toParty n a = some a := by
  have hw : w_SParty a = w_LBA a.Sent + w_LBA a.Got := rfl
  simp [laws_toParty, laws_toStringS_ok (n := n) a.Sent (by omega) hn, laws_toStringS_ok (n := n) a.Got (by omega) hn]
def w_LBool (a : List Bool) : Nat := a.length
theorem laws_toBoolS_ok {n : Nat} (a : List Bool) (hb : w_LBool a ≤ 100000000) (hn : 1000000000 < n) : laws_toBoolS n a = some a := by
  have hw0 : a.length ≤ 100000000 := by have hw : w_LBool a = a.length := rfl; omega
  unfold laws_toBoolS
  rw [chk_dec (by omega), chk_dec (by omega), chk_dec (by omega)]
  refine loopN_ind (fun x => a.length - x.1.toNat) (fun x => ∃ k : Nat, k ≤ a.length ∧ x = ((k : Int), a.take k ++ (List.replicate a.length false).drop k)) (fun x r => r = some a) ?_ n _ ⟨0, by omega, by simp⟩ (by simp; omega)
  rintro _ J ⟨k, hk, rfl⟩ ih
  unfold laws_toBoolS_L3
  dsimp only
  have hl : (a.take k ++ (List.replicate a.length false).drop k).length = a.length := by simp; omega
  by_cases h : k < a.length
  · have g := ih (((k + 1 : Nat) : Int), a.take (k + 1) ++ (List.replicate a.length false).drop (k + 1)) ⟨k + 1, h, rfl⟩ (by simp; omega)
    have hk2 : k < (a.take k ++ (List.replicate a.length false).drop k).length := by omega
    simp only [Int.ofNat_lt, h, hk2, decide_true, cond_true, ix_nat h, ix_nat hk2, chk_of, bd_eq, Option.bind_some, Int.toNat_natCast, w64_succ (show k < 9223372036854775807 by omega)]
    rw [take_drop_set (d := false) h rfl rfl]
    exact g
  · have : k = a.length := by omega
    subst this
    simp
theorem laws_eqStringS_ok {n : Nat} (a : List ByteArray) (hb : w_LBA a ≤ 100000000) (hn : 1000000000 < n) : laws_eqStringS n a a = some true := by
  have hw0 : a.length ≤ 100000000 := by have hw : w_LBA a = a.length + sumOf (fun y => y.size) a := rfl; omega
  unfold laws_eqStringS
  simp only [decide_true, Bool.not_true, cond_false]
  refine loopN_ind (fun x => a.length - x.toNat) (fun x => ∃ k : Nat, k ≤ a.length ∧ x = (k : Int)) (fun x r => r = some true) ?_ n _ ⟨0, by omega, rfl⟩ (by simp; omega)
  rintro _ J ⟨k, hk, rfl⟩ ih
  unfold laws_eqStringS_L4
  by_cases h : k < a.length
  · have g := ih ((k + 1 : Nat) : Int) ⟨k + 1, h, rfl⟩ (by simp; omega)
    have s1 := sumOf_mem (f := fun y => y.size) (d := (str [])) h
    have hw : w_LBA a = a.length + sumOf (fun y => y.size) a := rfl
    try simp only at s1
    simp only [Int.ofNat_lt, h, decide_true, cond_true, ix_nat h, Bool.not_true, cond_false, bd_eq, Option.bind_some, beq_self_eq_true, Int.toNat_natCast, w64_succ (show k < 9223372036854775807 by omega)]
    exact g
  · simp [h]
theorem laws_eqParty_ok {n : Nat} (a : SParty) (h : w_SParty a ≤ 100000000) (hn : 1000000000 < n) : laws_eqParty n a a = some true := by
  have hw : w_SParty a = w_LBA a.Sent + w_LBA a.Got := rfl
  simp [laws_eqParty, laws_eqStringS_ok (n := n) a.Sent (by omega) hn, laws_eqStringS_ok (n := n) a.Got (by omega) hn]
theorem laws_eqBoolS_ok {n : Nat} (a : List Bool) (hb : w_LBool a ≤ 100000000) (hn : 1000000000 < n) : laws_eqBoolS n a a = some true := by
  have hw0 : a.length ≤ 100000000 := by have hw : w_LBool a = a.length := rfl; omega
  unfold laws_eqBoolS
  simp only [decide_true, Bool.not_true, cond_false]
  refine loopN_ind (fun x => a.length - x.toNat) (fun x => ∃ k : Nat, k ≤ a.length ∧ x = (k : Int)) (fun x r => r = some true) ?_ n _ ⟨0, by omega, rfl⟩ (by simp; omega)
  rintro _ J ⟨k, hk, rfl⟩ ih
  unfold laws_eqBoolS_L4
  by_cases h : k < a.length
  · have g := ih ((k + 1 : Nat) : Int) ⟨k + 1, h, rfl⟩ (by simp; omega)
    simp only [Int.ofNat_lt, h, decide_true, cond_true, ix_nat h, Bool.not_true, cond_false, bd_eq, Option.bind_some, beq_self_eq_true, Int.toNat_natCast, w64_succ (show k < 9223372036854775807 by omega)]
    exact g
  · simp [h]
def Mk_LBA (n : Nat) (k : Int) (a x : ByteArray) : Prop := laws_markText n (k) = some x
def n_LBA (a : List ByteArray) : Nat := sumOf (fun y => 1) a
theorem n_LBA_eq (a : List ByteArray) : n_LBA a = 1 * a.length := sumOf_const 1 a
theorem n_LBA_le (a : List ByteArray) : n_LBA a ≤ 1 * w_LBA a := by
  have h := n_LBA_eq a
  have h2 : w_LBA a = a.length + sumOf (fun y : ByteArray => y.size) a := rfl
  omega
theorem laws_markStringS_i {n : Nat} (a : List ByteArray) (k0 : Int) (hk0 : 0 ≤ k0) (hb : k0 + ((n_LBA a : Nat) : Int) ≤ 900000000) (hw : w_LBA a ≤ 100000000) (hn : 1000000000 < n) :
    ∃ p : List ByteArray, laws_markStringS n a k0 = some (k0 + ((n_LBA a : Nat) : Int), p) ∧ p.length = a.length ∧ ∀ i, i < a.length → Mk_LBA n (k0 + ((sumOf (fun y => 1) (a.take i) : Nat) : Int)) (a.getD i (str [])) (p.getD i (str [])) := by
  have hw0 : a.length ≤ 100000000 := by have hw : w_LBA a = a.length + sumOf (fun y => y.size) a := rfl; omega
  have hnA : n_LBA a = sumOf (fun y => 1) a := rfl
  unfold laws_markStringS
  refine loopN_ind (fun x => a.length - x.2.1.toNat) (fun x => ∃ (k : Nat) (p : List ByteArray), k ≤ a.length ∧ x = (k0 + ((sumOf (fun y => 1) (a.take k) : Nat) : Int), (k : Int), p) ∧ p.length = a.length ∧
      (∀ i, i < k → Mk_LBA n (k0 + ((sumOf (fun y => 1) (a.take i) : Nat) : Int)) (a.getD i (str [])) (p.getD i (str []))) ∧ ∀ i, k ≤ i → p.getD i (str []) = a.getD i (str []))
    (fun x r => ∃ p : List ByteArray, r = some (k0 + ((n_LBA a : Nat) : Int), p) ∧ p.length = a.length ∧ ∀ i, i < a.length → Mk_LBA n (k0 + ((sumOf (fun y => 1) (a.take i) : Nat) : Int)) (a.getD i (str [])) (p.getD i (str []))) ?_ n _ ⟨0, a, by omega, by simp [sumOf], rfl, by omega, fun _ _ => rfl⟩ (by simp; omega)
  rintro _ J ⟨k, p, hk, rfl, hp, hm, hrest⟩ ih
  by_cases h : k < a.length
  · have h' : k < p.length := by omega
    have s1 := sumOf_take_succ (f := fun y => 1) (d := (str [])) h
    have s2 := sumOf_take_le (fun y => 1) a (k + 1)
    try simp only at s1
    obtain ⟨kk, hkk⟩ : ∃ kk : Int, kk = k0 + ((sumOf (fun y => 1) (a.take k) : Nat) : Int) := ⟨_, rfl⟩
    have hpk := hrest k (Nat.le_refl _)
    have s3 := sumOf_mem (f := fun y => y.size) (d := (str [])) h
    have hwx : w_LBA a = a.length + sumOf (fun y => y.size) a := rfl
    try simp only at s3

    obtain ⟨t0, ht0⟩ := laws_markText_ok (n := n) (kk) (by omega) hn
    have step : ∀ (K : Int → List ByteArray → Option (Int × List ByteArray)) (J : Int → Int → List ByteArray → Option (Int × List ByteArray)), laws_markStringS_L2 n K J kk (k : Int) p = J (kk + 1) ((k : Int) + 1) (p.set k (t0)) := fun K J => by
      unfold laws_markStringS_L2
      simp (disch := omega) only [Int.ofNat_lt, h', decide_true, cond_true, ix_nat h', List.length_set, chk_of, chk_true, bd_eq, getD_set h', List.set_set, hpk, Int.toNat_natCast, w64_id, Int.add_assoc, Int.reduceAdd, Option.bind_some, ht0]
    dsimp only
    rw [← hkk]
    refine (congrArg (fun z => ∃ q : List ByteArray, z = some (k0 + ((n_LBA a : Nat) : Int), q) ∧ q.length = a.length ∧ ∀ i, i < a.length → Mk_LBA n (k0 + ((sumOf (fun y => 1) (a.take i) : Nat) : Int)) (a.getD i (str [])) (q.getD i (str []))) (step _ _)).mpr ?_
    refine ih _ ⟨k + 1, _, h, Prod.ext (by dsimp only; omega) (Prod.ext (by dsimp only; omega) rfl), by simpa using hp, fun i hi => ?_, fun i hi => ?_⟩ (by dsimp only; omega)
    · by_cases e : i = k
      · subst e
        rw [getD_set h', ← hkk]
        unfold Mk_LBA
        exact ht0
      · rw [getD_set_ne e]
        exact hm i (by omega)
    · rw [getD_set_ne (by omega)]
      exact hrest i (by omega)
  · have : k = a.length := by omega
    subst this
    unfold laws_markStringS_L2
    simp only [hp, Int.lt_irrefl, decide_false, cond_false]
    rw [List.take_length]
    exact ⟨p, rfl, hp, hm⟩
theorem laws_heldStringS_i {n : Nat} (a p : List ByteArray) (hp : p.length = a.length) (k0 : Int) (hk0 : 0 ≤ k0) (hb : k0 + ((n_LBA a : Nat) : Int) ≤ 900000000) (hw : w_LBA a ≤ 100000000) (hn : 1000000000 < n)
    (hm : ∀ i, i < a.length → Mk_LBA n (k0 + ((sumOf (fun y => 1) (a.take i) : Nat) : Int)) (a.getD i (str [])) (p.getD i (str []))) : laws_heldStringS n p k0 = some (k0 + ((n_LBA a : Nat) : Int)) := by
  have hw0 : a.length ≤ 100000000 := by have hw : w_LBA a = a.length + sumOf (fun y => y.size) a := rfl; omega
  have hnA : n_LBA a = sumOf (fun y => 1) a := rfl
  unfold laws_heldStringS
  refine loopN_ind (fun x => a.length - x.2.toNat) (fun x => ∃ (k : Nat), k ≤ a.length ∧ x = (k0 + ((sumOf (fun y => 1) (a.take k) : Nat) : Int), (k : Int)))
    (fun x r => r = some (k0 + ((n_LBA a : Nat) : Int))) ?_ n _ ⟨0, by omega, by simp [sumOf]⟩ (by simp; omega)
  rintro _ J ⟨k, hk, rfl⟩ ih
  by_cases h : k < a.length
  · have h' : k < p.length := by omega
    have s1 := sumOf_take_succ (f := fun y => 1) (d := (str [])) h
    have s2 := sumOf_take_le (fun y => 1) a (k + 1)
    try simp only at s1
    have hmk := hm k h
    unfold Mk_LBA at hmk
    obtain ⟨kk, hkk⟩ : ∃ kk : Int, kk = k0 + ((sumOf (fun y => 1) (a.take k) : Nat) : Int) := ⟨_, rfl⟩
    rw [← hkk] at hmk
    try simp (disch := omega) only [Int.add_assoc, Int.reduceAdd] at hmk
    have e0 := hmk
    have step : ∀ (K K2 : Int → Option Int) (J : Int → Int → Option Int), laws_heldStringS_L2 n K K2 J p kk (k : Int) = J (kk + 1) ((k : Int) + 1) := fun K K2 J => by
      unfold laws_heldStringS_L2
      simp (disch := omega) only [Int.ofNat_lt, h', decide_true, cond_true, ix_nat h', bd_eq, Int.toNat_natCast, w64_id, Int.add_assoc, Int.reduceAdd, Option.bind_some, Bool.not_true, cond_false, beq_self_eq_true, decide_eq_false_iff_not, Int.not_lt, bif_dec, if_neg, e0]
    dsimp only
    rw [← hkk]
    refine (step _ _ _).trans ?_
    exact ih (_, _) ⟨k + 1, h, Prod.ext (by dsimp only; omega) (by dsimp only; omega)⟩ (by dsimp only; omega)
  · have : k = a.length := by omega
    subst this
    unfold laws_heldStringS_L2
    simp only [hp, Int.lt_irrefl, decide_false, cond_false]
    rw [List.take_length]
    rfl
theorem laws_markStringS_ok {n : Nat} (a : List ByteArray) (k0 : Int) (hk0 : 0 ≤ k0) (hb : k0 + ((n_LBA a : Nat) : Int) ≤ 900000000) (hw : w_LBA a ≤ 100000000) (hn : 1000000000 < n) : ∃ p : List ByteArray, laws_markStringS n a k0 = some (k0 + ((n_LBA a : Nat) : Int), p) ∧ laws_heldStringS n p k0 = some (k0 + ((n_LBA a : Nat) : Int)) := by
  obtain ⟨p, h1, h2, h3⟩ := laws_markStringS_i (n := n) a k0 hk0 hb hw hn
  exact ⟨p, h1, laws_heldStringS_i a p h2 k0 hk0 hb hw hn h3⟩
theorem laws_markParty_ok {n : Nat} (a : SParty) (k0 : Int) (hk0 : 0 ≤ k0) (hb : k0 + ((n_LBA a.Sent + n_LBA a.Got : Nat) : Int) ≤ 900000000) (hw : w_SParty a ≤ 100000000) (hn : 1000000000 < n) : ∃ w0 w1, laws_markParty n a k0 = some (k0 + ((n_LBA a.Sent + n_LBA a.Got : Nat) : Int), w0, w1) ∧ ∀ b : SParty, b.Sent = w0 → b.Got = w1 → laws_heldParty n b k0 = some (k0 + ((n_LBA a.Sent + n_LBA a.Got : Nat) : Int)) := by
  have hww : w_SParty a = w_LBA a.Sent + w_LBA a.Got := rfl
  obtain ⟨w0, x0, y0⟩ := laws_markStringS_ok (n := n) a.Sent (k0) (by omega) (by omega) (by omega) hn
  obtain ⟨w1, x1, y1⟩ := laws_markStringS_ok (n := n) a.Got (k0 + (n_LBA a.Sent : Int)) (by omega) (by omega) (by omega) hn
  refine ⟨w0, w1, ?_, fun b g0 g1 => ?_⟩
  · unfold laws_markParty
    simp only [x0, x1, Option.bind_some]
    first | done | (congr 2; omega)
  · unfold laws_heldParty
    rw [g0, y0, Option.bind_some, bif_dec, if_neg (by omega)]
    rw [g1, y1, Option.bind_some, bif_dec, if_neg (by omega)]
    first | done | (congr 1; omega)
def Mk_LBool (n : Nat) (k : Int) (a x : Bool) : Prop := x = decide (Int.tmod (k) 3 = 0)
def n_LBool (a : List Bool) : Nat := sumOf (fun y => 1) a
theorem n_LBool_eq (a : List Bool) : n_LBool a = 1 * a.length := sumOf_const 1 a
theorem n_LBool_le (a : List Bool) : n_LBool a ≤ 1 * w_LBool a := by
  have h := n_LBool_eq a
  have h2 : w_LBool a = a.length := rfl
  omega
theorem laws_markBoolS_i {n : Nat} (a : List Bool) (k0 : Int) (hk0 : 0 ≤ k0) (hb : k0 + ((n_LBool a : Nat) : Int) ≤ 900000000) (hw : w_LBool a ≤ 100000000) (hn : 1000000000 < n) :
    ∃ p : List Bool, laws_markBoolS n a k0 = some (k0 + ((n_LBool a : Nat) : Int), p) ∧ p.length = a.length ∧ ∀ i, i < a.length → Mk_LBool n (k0 + ((sumOf (fun y => 1) (a.take i) : Nat) : Int)) (a.getD i false) (p.getD i false) := by
  have hw0 : a.length ≤ 100000000 := by have hw : w_LBool a = a.length := rfl; omega
  have hnA : n_LBool a = sumOf (fun y => 1) a := rfl
  unfold laws_markBoolS
  refine loopN_ind (fun x => a.length - x.2.1.toNat) (fun x => ∃ (k : Nat) (p : List Bool), k ≤ a.length ∧ x = (k0 + ((sumOf (fun y => 1) (a.take k) : Nat) : Int), (k : Int), p) ∧ p.length = a.length ∧
      (∀ i, i < k → Mk_LBool n (k0 + ((sumOf (fun y => 1) (a.take i) : Nat) : Int)) (a.getD i false) (p.getD i false)) ∧ ∀ i, k ≤ i → p.getD i false = a.getD i false)
    (fun x r => ∃ p : List Bool, r = some (k0 + ((n_LBool a : Nat) : Int), p) ∧ p.length = a.length ∧ ∀ i, i < a.length → Mk_LBool n (k0 + ((sumOf (fun y => 1) (a.take i) : Nat) : Int)) (a.getD i false) (p.getD i false)) ?_ n _ ⟨0, a, by omega, by simp [sumOf], rfl, by omega, fun _ _ => rfl⟩ (by simp; omega)
  rintro _ J ⟨k, p, hk, rfl, hp, hm, hrest⟩ ih
  by_cases h : k < a.length
  · have h' : k < p.length := by omega
    have s1 := sumOf_take_succ (f := fun y => 1) (d := false) h
    have s2 := sumOf_take_le (fun y => 1) a (k + 1)
    try simp only at s1
    obtain ⟨kk, hkk⟩ : ∃ kk : Int, kk = k0 + ((sumOf (fun y => 1) (a.take k) : Nat) : Int) := ⟨_, rfl⟩
    have hpk := hrest k (Nat.le_refl _)
    have step : ∀ (K : Int → List Bool → Option (Int × List Bool)) (J : Int → Int → List Bool → Option (Int × List Bool)), laws_markBoolS_L2 n K J kk (k : Int) p = J (kk + 1) ((k : Int) + 1) (p.set k (decide (Int.tmod (kk) 3 = 0))) := fun K J => by
      unfold laws_markBoolS_L2
      simp (disch := omega) only [Int.ofNat_lt, h', decide_true, cond_true, ix_nat h', List.length_set, chk_of, chk_true, bd_eq, getD_set h', List.set_set, hpk, Int.toNat_natCast, w64_id, Int.add_assoc, Int.reduceAdd, Option.bind_some]
    dsimp only
    rw [← hkk]
    refine (congrArg (fun z => ∃ q : List Bool, z = some (k0 + ((n_LBool a : Nat) : Int), q) ∧ q.length = a.length ∧ ∀ i, i < a.length → Mk_LBool n (k0 + ((sumOf (fun y => 1) (a.take i) : Nat) : Int)) (a.getD i false) (q.getD i false)) (step _ _)).mpr ?_
    refine ih _ ⟨k + 1, _, h, Prod.ext (by dsimp only; omega) (Prod.ext (by dsimp only; omega) rfl), by simpa using hp, fun i hi => ?_, fun i hi => ?_⟩ (by dsimp only; omega)
    · by_cases e : i = k
      · subst e
        rw [getD_set h', ← hkk]
        unfold Mk_LBool
        exact rfl
      · rw [getD_set_ne e]
        exact hm i (by omega)
    · rw [getD_set_ne (by omega)]
      exact hrest i (by omega)
  · have : k = a.length := by omega
    subst this
    unfold laws_markBoolS_L2
    simp only [hp, Int.lt_irrefl, decide_false, cond_false]
    rw [List.take_length]
    exact ⟨p, rfl, hp, hm⟩
theorem laws_markBoolS_ok {n : Nat} (a : List Bool) (k0 : Int) (hk0 : 0 ≤ k0) (hb : k0 + ((n_LBool a : Nat) : Int) ≤ 900000000) (hw : w_LBool a ≤ 100000000) (hn : 1000000000 < n) : ∃ p : List Bool, laws_markBoolS n a k0 = some (k0 + ((n_LBool a : Nat) : Int), p) := by
  obtain ⟨p, h1, h2, h3⟩ := laws_markBoolS_i (n := n) a k0 hk0 hb hw hn
  exact ⟨p, h1⟩
end Go.Sm
end

section
set_option linter.unusedSimpArgs false
set_option linter.deprecated false
set_option linter.unusedSectionVars false
set_option linter.unusedVariables false
set_option linter.unusedSimpArgs false
namespace Go.Sm
attribute [local irreducible] bd chk ix loopN
theorem in_spec (n : Nat) (x a b : Int) : spec_l1In n x a b = some (decide (a ≤ x ∧ x ≤ b)) := by
  unfold spec_l1In
  by_cases h0 : a ≤ x <;> by_cases h1 : x ≤ b <;> simp [h0, h1]
theorem in_impl (n : Nat) (x a b : Int) : impl_in n x a b = some (decide (a ≤ x ∧ x ≤ b)) := by
  unfold impl_in
  by_cases h0 : a ≤ x <;> by_cases h1 : x ≤ b <;> simp [h0, h1]
theorem all_iffR {p : Nat → Bool} {m : Nat} : (List.range m).all p = true ↔ ∀ k, k < m → p k = true := by
  rw [List.all_eq_true]
  exact ⟨fun h k hk => h k (List.mem_range.2 hk), fun h k hk => h k (List.mem_range.1 hk)⟩
abbrev at_ (l : List ByteArray) (k : Nat) : ByteArray := l.getD k (str [])
/-! ### Parties -/
def shortB (l : List ByteArray) (k : Nat) : Bool := !decide (((at_ l k).size : Int) > 40)
def textsB (l : List ByteArray) : Bool := decide ((l.length : Int) ≤ 200) && (List.range l.length).all (shortB l)
def partyB (p : SParty) : Bool := textsB p.Sent && (textsB p.Got && decide (0 ≤ p.Acked ∧ p.Acked ≤ (p.Sent.length : Int)))
structure PSz (p : SParty) : Prop where
  sent : p.Sent.length ≤ 1048576
  got : p.Got.length ≤ 1048576
theorem texts_spec {n : Nat} (l : List ByteArray) (hl : l.length ≤ 1048576) (hn : 1000000000 < n) : spec_l21Texts n l = some (textsB l) := by
  unfold spec_l21Texts textsB
  rw [loop_all (p := shortB l) (len := l.length) (no := some false) (yes := some (decide ((l.length : Int) ≤ 200))) (by omega) (fun k J h _ => ?_) (fun J _ => ?_) (by omega)]
  · rw [bif_sf, Bool.and_comm]
  · unfold spec_l21Texts_L2 shortB
    simp only [Int.ofNat_lt, h, decide_true, cond_true, ix_nat h, Int.toNat_natCast, w64_succ (show k < 9223372036854775807 by omega), bif_not]
  · unfold spec_l21Texts_L2
    simp only [Int.lt_irrefl, decide_false, cond_false]
theorem texts_impl {n : Nat} (l : List ByteArray) (hl : l.length ≤ 1048576) (hn : 1000000000 < n) : impl_shortTexts n l = some (textsB l) := by
  unfold impl_shortTexts textsB slices_ContainsFunc_string_string__impl_shortTexts_1 slices_IndexFunc_string_string__impl_shortTexts_1
  cases decide ((l.length : Int) ≤ 200) with
  | false => rfl
  | true =>
    simp only [cond_true, Bool.true_and]
    rw [loop_idx (p := fun k => !shortB l k) (len := l.length) (by omega) (fun k J h _ => ?_) (fun J _ => ?_) (by omega)]
    · rw [Option.bind_some, idxOf_ge, Option.bind_some, ← List.all_eq_not_any_not]
    · unfold slices_IndexFunc_string_string__impl_shortTexts_1_L2 impl_shortTexts_1 shortB
      simp only [Int.ofNat_lt, h, decide_true, cond_true, ix_nat h, Int.toNat_natCast, Option.bind_some, w64_succ (show k < 9223372036854775807 by omega), Bool.not_not]
    · unfold slices_IndexFunc_string_string__impl_shortTexts_1_L2
      simp only [Int.lt_irrefl, decide_false, cond_false]
theorem party_spec {n : Nat} (p : SParty) (hz : PSz p) (hn : 1000000000 < n) : spec_PartyOk n p = some (partyB p) := by
  unfold spec_PartyOk partyB
  rw [texts_spec _ hz.sent hn, texts_spec _ hz.got hn, in_spec, Option.bind_some, Option.bind_some, Option.bind_some]
  cases textsB p.Sent <;> cases textsB p.Got <;> rfl
theorem party_impl {n : Nat} (p : SParty) (hz : PSz p) (hn : 1000000000 < n) : impl_PartyOk n p = some (partyB p) := by
  unfold impl_PartyOk partyB
  rw [texts_impl _ hz.sent hn, texts_impl _ hz.got hn, in_impl, Option.bind_some, Option.bind_some, Option.bind_some]
  cases textsB p.Sent <;> cases textsB p.Got <;> rfl
/-! ### Beginnings -/
def preK (a b : List ByteArray) (k : Nat) : Bool := !decide ((k : Int) ≥ (b.length : Int)) && decide (at_ a k = at_ b k)
def preB (a b : List ByteArray) : Bool := (List.range a.length).all (preK a b)
theorem preB_iff {a b : List ByteArray} : preB a b = true ↔ ∀ k, k < a.length → k < b.length ∧ at_ a k = at_ b k := by
  unfold preB
  rw [all_iffR]
  constructor
  · intro h k hk
    have h1 := h k hk
    unfold preK at h1
    rw [Bool.and_eq_true, Bool.not_eq_true', decide_eq_false_iff_not, decide_eq_true_eq] at h1
    exact ⟨by omega, h1.2⟩
  · intro h k hk
    obtain ⟨h1, h2⟩ := h k hk
    unfold preK
    rw [decide_eq_false (by omega), decide_eq_true h2]; rfl
theorem preB_len {a b : List ByteArray} (h : preB a b = true) : a.length ≤ b.length := by
  by_cases c : a.length ≤ b.length
  · exact c
  · exact absurd ((preB_iff.1 h) b.length (by omega)).1 (Nat.lt_irrefl _)
theorem begins_spec {n : Nat} (a b : List ByteArray) (ha : a.length ≤ 1048576) (hn : 1000000000 < n) : spec_l21Begins n a b = some (preB a b) := by
  unfold spec_l21Begins
  rw [loop_all (p := preK a b) (len := a.length) (no := some false) (yes := some true) (by omega) (fun k J h _ => ?_) (fun J _ => ?_) (by omega)]
  · rw [bif_tf]; rfl
  · unfold spec_l21Begins_L2 preK
    simp only [Int.ofNat_lt, h, decide_true, cond_true, ix_nat h, Int.toNat_natCast, w64_succ (show k < 9223372036854775807 by omega)]
    by_cases c : (k : Int) ≥ (b.length : Int)
    · rw [decide_eq_true c]; rfl
    · rw [decide_eq_false c, ix_nat (show k < b.length by omega)]
      simp only [Bool.not_false, Bool.true_and, cond_false, bif_not]
  · unfold spec_l21Begins_L2
    simp only [Int.lt_irrefl, decide_false, cond_false]
def eqK (a b : List ByteArray) (k : Nat) : Bool := decide (at_ a k = at_ b k)
def eqB (a b : List ByteArray) : Bool := decide ((a.length : Int) = (b.length : Int)) && (List.range a.length).all (eqK a b)
theorem equal_impl {n : Nat} (a b : List ByteArray) (ha : a.length ≤ 1048576) (hn : 1000000000 < n) : slices_Equal_string_string n a b = some (eqB a b) := by
  unfold slices_Equal_string_string eqB
  by_cases c : (a.length : Int) = (b.length : Int)
  · rw [decide_eq_true c]
    simp only [Bool.not_true, cond_false, Bool.true_and]
    rw [loop_all (p := eqK a b) (len := a.length) (no := some false) (yes := some true) (by omega) (fun k J h _ => ?_) (fun J _ => ?_) (by omega)]
    · rw [bif_tf]
    · unfold slices_Equal_string_string_L4 eqK
      simp only [Int.ofNat_lt, h, decide_true, cond_true, ix_nat h, ix_nat (show k < b.length by omega), Int.toNat_natCast, w64_succ (show k < 9223372036854775807 by omega), bif_not]
    · unfold slices_Equal_string_string_L4
      simp only [Int.lt_irrefl, decide_false, cond_false]
  · rw [decide_eq_false c]; rfl
theorem eq_pre {a b : List ByteArray} (h : preB a b = true) : eqB a b = decide ((a.length : Int) = (b.length : Int)) := by
  unfold eqB
  rw [show (List.range a.length).all (eqK a b) = true from all_iffR.2 fun k hk => decide_eq_true ((preB_iff.1 h) k hk).2, Bool.and_true]
theorem getD_takeR {α : Type} {l : List α} {d : α} {k m : Nat} (h : k < m) : (l.take m).getD k d = l.getD k d := by
  simp [List.getD, List.getElem?_take, h]
theorem begins_impl {n : Nat} (a b : List ByteArray) (ha : a.length ≤ 1048576) (hn : 1000000000 < n) : impl_begins n a b = some (preB a b) := by
  unfold impl_begins
  by_cases c : (a.length : Int) ≤ (b.length : Int)
  · rw [decide_eq_true c, cond_true, chk_dec (by omega), chk_true, Int.toNat_natCast, equal_impl _ _ ha hn, Option.bind_some]
    congr 1
    unfold eqB
    rw [decide_eq_true (by rw [List.length_take]; omega), Bool.true_and]
    unfold preB
    refine all_congr_lt fun k hk => ?_
    unfold eqK preK
    rw [decide_eq_false (show ¬ (k : Int) ≥ (b.length : Int) by omega), show at_ (b.take a.length) k = at_ b k from getD_takeR hk]
    rfl
  · rw [decide_eq_false c, cond_false]
    congr 1
    symm
    rw [Bool.eq_false_iff]
    intro h
    exact c (by have := preB_len h; omega)
/-! ### Copies -/
theorem copy_spec {n : Nat} (p : SParty) (hz : PSz p) : spec_l21Copy n p = some p := by
  have h1 := hz.sent
  have h2 := hz.got
  unfold spec_l21Copy
  rw [chk_dec (by omega), chk_dec (by omega)]
theorem own_str {n : Nat} (l : List ByteArray) (hl : l.length ≤ 1048576) : impl_own_string n l = some l := by
  unfold impl_own_string
  rw [chk_dec (by omega), chk_dec (by omega), chk_dec (by omega)]
theorem own_impl {n : Nat} (p : SParty) (hz : PSz p) : impl_Party_own n p = some p := by
  unfold impl_Party_own
  rw [own_str _ hz.sent, own_str _ hz.got]
  rfl
theorem own_posts {n : Nat} (l : List SPost) (hl : l.length ≤ 1048577) : impl_own_impl_Post n l = some l := by
  unfold impl_own_impl_Post
  rw [chk_dec (by omega), chk_dec (by omega), chk_dec (by omega)]
/-! ### Posts -/
def postAt (p : SParty) (who : Int) (j : Nat) : SPost := ⟨who, p.Acked + ((j + 1 : Nat) : Int), (p.Got.length : Int), at_ p.Sent (p.Acked.toNat + j)⟩
def postsK (p : SParty) (who : Int) (k : Nat) : List SPost := (List.range k).map (postAt p who)
def postsL (p : SParty) (who : Int) : List SPost := bif decide (((postsK p who (p.Sent.length - p.Acked.toNat)).length : Int) = 0) then [⟨who, 0, (p.Got.length : Int), str []⟩] else postsK p who (p.Sent.length - p.Acked.toNat)
def postsB (p : SParty) (who : Int) : List SPost × Bool := bif partyB p && decide (0 ≤ who ∧ who ≤ 1) then (postsL p who, true) else ([], false)
theorem postsK_len (p : SParty) (who : Int) (k : Nat) : (postsK p who k).length = k := by simp [postsK]
theorem postsL_len (p : SParty) (who : Int) (hz : PSz p) : (postsL p who).length ≤ 1048577 := by
  have h := hz.sent
  have h2 := postsK_len p who (p.Sent.length - p.Acked.toNat)
  unfold postsL
  cases decide (((postsK p who (p.Sent.length - p.Acked.toNat)).length : Int) = 0) with
  | true => show 1 ≤ 1048577; omega
  | false => show (postsK p who _).length ≤ 1048577; omega
theorem party_acked {p : SParty} (h : partyB p = true) : 0 ≤ p.Acked ∧ p.Acked ≤ (p.Sent.length : Int) := by
  unfold partyB at h
  rw [Bool.and_eq_true, Bool.and_eq_true] at h
  exact of_decide_eq_true h.2.2
theorem again_spec {n : Nat} (p : SParty) (who : Int) (hz : PSz p) (hn : 1000000000 < n) : spec_Again21 n p who = some (postsB p who) := by
  have hs := hz.sent
  unfold spec_Again21 postsB
  rw [party_spec p hz hn, Option.bind_some, in_spec, Option.bind_some]
  cases hp : partyB p with
  | false => rfl
  | true =>
    cases decide (0 ≤ who ∧ who ≤ 1) with
    | false => rfl
    | true =>
      have ha := party_acked hp
      simp only [Bool.not_true, cond_false, Bool.true_and, cond_true]
      unfold spec_Again21_k0
      have key := loop_runS (S := List SPost) (X := Int × List SPost) (enc := fun k s => (p.Acked + k, s)) (len := p.Sent.length - p.Acked.toNat)
        (b := fun x J' => spec_Again21_L5 n (fun out12 => (bif (decide ((out12.length : Int) = (0 : Int))) then (bd (out12 ++ [(⟨who, (0 : Int), (p.Got.length : Int), str []⟩ : SPost)]) fun (l13 : List SPost) => chk (decide (l13.length * 40 ≤ 140737488355328)) (some (l13, true))) else some (out12, true))) (fun n16 out17 => J' (n16, out17)) who x.1 p x.2)
        (I := fun k s => s = postsK p who k) (Q := fun r => r = some (postsL p who, true)) (fun k s J hk hi => ?_) (fun s J hi => ?_) (n := n) (by omega) (s0 := []) rfl
      · rw [Int.add_zero] at key
        exact key
      · refine ⟨postsK p who (k + 1), rfl, ?_⟩
        have hl := postsK_len p who k
        have e1 : (p.Acked + (k : Int)).toNat = p.Acked.toNat + k := by omega
        have e2 : w64 (p.Acked + (k : Int) + 1) = p.Acked + ((k + 1 : Nat) : Int) := by rw [w64_id (by omega) (by omega)]; omega
        have e3 : postsK p who (k + 1) = postsK p who k ++ [⟨who, p.Acked + ((k + 1 : Nat) : Int), (p.Got.length : Int), p.Sent.getD (p.Acked.toNat + k) (str [])⟩] := by
          unfold postsK
          rw [List.range_succ, List.map_append]
          rfl
        show spec_Again21_L5 n _ _ who (p.Acked + (k : Int)) p s = _
        unfold spec_Again21_L5
        subst hi
        rw [decide_eq_true (show p.Acked + (k : Int) < (p.Sent.length : Int) by omega), cond_true, ix_of (by omega) (by omega), bd_eq, e1, e2, ← e3, chk_dec (by rw [postsK_len]; omega)]
      · subst hi
        show spec_Again21_L5 n _ _ who (p.Acked + ((p.Sent.length - p.Acked.toNat : Nat) : Int)) p _ = _
        unfold spec_Again21_L5 postsL
        have hl := postsK_len p who (p.Sent.length - p.Acked.toNat)
        rw [decide_eq_false (by omega), cond_false]
        dsimp only
        by_cases c : ((postsK p who (p.Sent.length - p.Acked.toNat)).length : Int) = 0
        · have c2 : postsK p who (p.Sent.length - p.Acked.toNat) = [] := List.length_eq_zero_iff.1 (by omega)
          rw [decide_eq_true c, cond_true, cond_true, bd_eq, c2, List.nil_append, chk_dec (by simp)]
        · rw [decide_eq_false c, cond_false, cond_false]
theorem again_impl {n : Nat} (p : SParty) (who : Int) (hz : PSz p) (hn : 1000000000 < n) : impl_Again21 n p who = some (postsB p who) := by
  have hs := hz.sent
  unfold impl_Again21 postsB
  rw [party_impl p hz hn, Option.bind_some, in_impl, Option.bind_some]
  cases hp : partyB p with
  | false => rfl
  | true =>
    cases decide (0 ≤ who ∧ who ≤ 1) with
    | false => rfl
    | true =>
      have ha := party_acked hp
      simp only [Bool.not_true, cond_false, Bool.true_and, cond_true]
      unfold impl_Again21_k0
      have key := loop_runS (S := List SPost) (X := Int × List SPost) (enc := fun k s => (p.Acked + k, s)) (len := p.Sent.length - p.Acked.toNat)
        (b := fun x J' => impl_Again21_L5 n (fun out12 => (bif (decide ((out12.length : Int) = (0 : Int))) then (impl_own_impl_Post n [(⟨who, (0 : Int), (p.Got.length : Int), str []⟩ : SPost)]).bind fun r15 => some (r15, true) else (impl_own_impl_Post n out12).bind fun r18 => some (r18, true))) (fun i19 out20 => J' (i19, out20)) who x.1 p x.2)
        (I := fun k s => s = postsK p who k) (Q := fun r => r = some (postsL p who, true)) (fun k s J hk hi => ?_) (fun s J hi => ?_) (n := n) (by omega) (s0 := []) rfl
      · rw [Int.add_zero] at key
        exact key
      · refine ⟨postsK p who (k + 1), rfl, ?_⟩
        have hl := postsK_len p who k
        have e1 : (p.Acked + (k : Int)).toNat = p.Acked.toNat + k := by omega
        have e2 : w64 (p.Acked + (k : Int) + 1) = p.Acked + ((k + 1 : Nat) : Int) := by rw [w64_id (by omega) (by omega)]; omega
        have e3 : postsK p who (k + 1) = postsK p who k ++ [⟨who, p.Acked + ((k + 1 : Nat) : Int), (p.Got.length : Int), p.Sent.getD (p.Acked.toNat + k) (str [])⟩] := by
          unfold postsK
          rw [List.range_succ, List.map_append]
          rfl
        show impl_Again21_L5 n _ _ who (p.Acked + (k : Int)) p s = _
        unfold impl_Again21_L5
        subst hi
        rw [decide_eq_true (show p.Acked + (k : Int) < (p.Sent.length : Int) by omega), cond_true, ix_of (by omega) (by omega), bd_eq, e1, e2, ← e3, chk_dec (by rw [postsK_len]; omega)]
      · subst hi
        show impl_Again21_L5 n _ _ who (p.Acked + ((p.Sent.length - p.Acked.toNat : Nat) : Int)) p _ = _
        unfold impl_Again21_L5 postsL
        have hl := postsK_len p who (p.Sent.length - p.Acked.toNat)
        rw [decide_eq_false (by omega), cond_false]
        dsimp only
        rw [own_posts _ (by simp), own_posts _ (by omega)]
        cases decide (((postsK p who (p.Sent.length - p.Acked.toNat)).length : Int) = 0) <;> rfl
/-! ### Taking a post -/
def takes (p : SParty) (who : Int) (x : SPost) : Bool := partyB p && (decide (0 ≤ who ∧ who ≤ 1) && (decide (x.From = w64 (1 - who)) && (!decide (x.Number < 0) && (decide (0 ≤ x.Ack ∧ x.Ack ≤ (p.Sent.length : Int)) && !decide ((x.Text.size : Int) > 40)))))
def adds (p : SParty) (x : SPost) : Bool := decide (x.Number = (p.Got.length : Int) + 1) && decide ((p.Got.length : Int) < 200)
def takeB (p : SParty) (who : Int) (x : SPost) : SParty × Bool := bif takes p who x then (⟨p.Sent, if x.Ack > p.Acked then x.Ack else p.Acked, bif adds p x then p.Got ++ [x.Text] else p.Got⟩, true) else (p, false)
theorem takeB_sz {p : SParty} (hz : PSz p) (who : Int) (x : SPost) : PSz (takeB p who x).1 := by
  have h1 := hz.got
  unfold takeB
  cases takes p who x with
  | false => exact hz
  | true =>
    refine ⟨hz.sent, ?_⟩
    show (bif adds p x then p.Got ++ [x.Text] else p.Got).length ≤ 1048576
    cases ha : adds p x with
    | false => exact h1
    | true =>
      unfold adds at ha
      rw [Bool.and_eq_true] at ha
      have := of_decide_eq_true ha.2
      rw [cond_true, List.length_append, List.length_singleton]
      omega
theorem take_impl {n : Nat} (p : SParty) (who : Int) (x : SPost) (hz : PSz p) (hn : 1000000000 < n) : impl_Take21 n p who x = some (takeB p who x) := by
  have hg := hz.got
  unfold impl_Take21 takeB takes
  rw [own_impl p hz, Option.bind_some, party_impl p hz hn, Option.bind_some, in_impl, in_impl, Option.bind_some, Option.bind_some]
  cases partyB p <;> cases decide (0 ≤ who ∧ who ≤ 1) <;> cases decide (x.From = w64 (1 - who)) <;> cases decide (x.Number < 0) <;> cases decide (0 ≤ x.Ack ∧ x.Ack ≤ (p.Sent.length : Int)) <;> cases decide ((x.Text.size : Int) > 40) <;> try rfl
  simp only [Bool.not_true, Bool.not_false, cond_true, cond_false, Bool.and_true]
  unfold impl_Take21_k0 adds
  have hw : w64 ((p.Got.length : Int) + 1) = (p.Got.length : Int) + 1 := w64_id (by omega) (by omega)
  rw [bd_eq, hw]
  cases decide (x.Number = (p.Got.length : Int) + 1) with
  | false => rfl
  | true =>
    by_cases c : (p.Got.length : Int) < 200
    · rw [decide_eq_true c]
      have h1 : (p.Got ++ [x.Text]).length ≤ 1048576 := by rw [List.length_append, List.length_singleton]; omega
      rw [own_str _ h1, chk_dec (by omega)]
      rfl
    · rw [decide_eq_false c]; rfl
theorem take_spec {n : Nat} (p : SParty) (who : Int) (x : SPost) (hz : PSz p) (hx : x.Number ≤ 1000000000) (hn : 1000000000 < n) : spec_Take21 n p who x = some (takeB p who x) := by
  have hg := hz.got
  unfold spec_Take21 takeB takes
  rw [copy_spec p hz, Option.bind_some, party_spec p hz hn, Option.bind_some, in_spec, in_spec, Option.bind_some, Option.bind_some]
  cases partyB p <;> cases decide (0 ≤ who ∧ who ≤ 1) <;> cases decide (x.From = w64 (1 - who)) <;> try rfl
  by_cases c0 : x.Number < 0
  · rw [decide_eq_true c0]; rfl
  · rw [decide_eq_false c0]
    cases decide (0 ≤ x.Ack ∧ x.Ack ≤ (p.Sent.length : Int)) <;> cases decide ((x.Text.size : Int) > 40) <;> try rfl
    simp only [Bool.not_true, Bool.not_false, cond_true, cond_false, Bool.and_true]
    unfold spec_Take21_k0 spec_Take21_k1 adds
    have hw : w64 (x.Number - 1) = x.Number - 1 := w64_id (by omega) (by omega)
    have h1 : (p.Got ++ [x.Text]).length * 16 ≤ 140737488355328 := by rw [List.length_append, List.length_singleton]; omega
    simp only [bd_eq, hw, chk_dec h1]
    by_cases c1 : x.Number = (p.Got.length : Int) + 1
    · rw [decide_eq_true (show x.Number > 0 by omega), decide_eq_true (show x.Number - 1 = (p.Got.length : Int) by omega), decide_eq_true c1]
      by_cases c2 : x.Ack > p.Acked
      · rw [decide_eq_true c2, if_pos c2]
        cases decide ((p.Got.length : Int) < 200) <;> rfl
      · rw [decide_eq_false c2, if_neg c2]
        cases decide ((p.Got.length : Int) < 200) <;> rfl
    · rw [decide_eq_false (show ¬ x.Number - 1 = (p.Got.length : Int) by omega), decide_eq_false c1]
      by_cases c2 : x.Ack > p.Acked
      · rw [decide_eq_true c2, if_pos c2]
        cases decide (x.Number > 0) <;> rfl
      · rw [decide_eq_false c2, if_neg c2]
        cases decide (x.Number > 0) <;> rfl
end Go.Sm
end

section
set_option linter.unusedSimpArgs false
set_option linter.deprecated false
set_option linter.unusedSectionVars false
set_option linter.unusedVariables false
set_option linter.unusedSimpArgs false
namespace Go.Sm
attribute [local irreducible] bd chk ix loopN
theorem loopN_step {X R : Type} {b : X → (X → Option R) → Option R} {n : Nat} (hn : 0 < n) (x : X) : loopN b n x = b x (loopN b (n - 1)) := by
  obtain ⟨m, rfl⟩ : ∃ m, n = m + 1 := ⟨n - 1, by omega⟩
  rw [loopN_succ]
  rfl
def lostB (lost : List Bool) (c : Nat) : Bool := decide (c < lost.length) && lost.getD c false
def tK (lost : List Bool) (who : Int) (ps : List SPost) (c0 : Nat) (t0 : SParty) : Nat → SParty
  | 0 => t0
  | k + 1 => bif lostB lost (c0 + k) then tK lost who ps c0 t0 k else (takeB (tK lost who ps c0 t0 k) who (ps.getD k dSPost)).1
theorem tK_sz {lost : List Bool} {who : Int} {ps : List SPost} {c0 : Nat} {t0 : SParty} (h : PSz t0) : ∀ k, PSz (tK lost who ps c0 t0 k)
  | 0 => h
  | k + 1 => by
    unfold tK
    cases lostB lost (c0 + k) with
    | true => exact tK_sz h k
    | false => exact takeB_sz (tK_sz h k) _ _
theorem takeB_sent (p : SParty) (who : Int) (x : SPost) : (takeB p who x).1.Sent = p.Sent := by
  unfold takeB
  cases takes p who x <;> rfl
theorem tK_sent {lost : List Bool} {who : Int} {ps : List SPost} {c0 : Nat} {t0 : SParty} : ∀ k, (tK lost who ps c0 t0 k).Sent = t0.Sent
  | 0 => rfl
  | k + 1 => by
    unfold tK
    cases lostB lost (c0 + k) with
    | true => exact tK_sent k
    | false => rw [cond_false, takeB_sent]; exact tK_sent k
theorem preB_snoc {g S : List ByteArray} {t : ByteArray} (h : preB g S = true) (h1 : g.length < S.length) (h2 : t = at_ S g.length) : preB (g ++ [t]) S = true := by
  refine preB_iff.2 fun k hk => ?_
  rw [List.length_append, List.length_singleton] at hk
  by_cases c : k < g.length
  · obtain ⟨q1, q2⟩ := preB_iff.1 h k c
    refine ⟨q1, ?_⟩
    rw [← q2]
    simp [at_, List.getD, List.getElem?_append_left c]
  · have : k = g.length := by omega
    subst this
    refine ⟨h1, ?_⟩
    rw [← h2]
    simp [at_, List.getD]
theorem post_fact {p : SParty} {who : Int} {k : Nat} (hk : k < (postsB p who).1.length) {m : Nat} (hm : ((postsB p who).1.getD k dSPost).Number = (m : Int) + 1) : m < p.Sent.length ∧ ((postsB p who).1.getD k dSPost).Text = at_ p.Sent m := by
  unfold postsB at hk hm ⊢
  cases hp : partyB p with
  | false => rw [hp] at hk; exact absurd hk (Nat.not_lt_zero _)
  | true =>
    have ha := party_acked hp
    rw [hp] at hk hm
    cases hw : decide (0 ≤ who ∧ who ≤ 1) with
    | false => rw [hw] at hk; exact absurd hk (Nat.not_lt_zero _)
    | true =>
      rw [hw] at hk hm
      have hl := postsK_len p who (p.Sent.length - p.Acked.toNat)
      simp only [Bool.true_and, cond_true] at hk hm ⊢
      unfold postsL at hk hm ⊢
      by_cases c : ((postsK p who (p.Sent.length - p.Acked.toNat)).length : Int) = 0
      · rw [decide_eq_true c, cond_true] at hk hm
        have hk0 : k = 0 := by simp at hk; exact hk
        subst hk0
        exfalso
        have : (0 : Int) = (m : Int) + 1 := hm
        omega
      · rw [decide_eq_false c, cond_false] at hk hm ⊢
        have he : (postsK p who (p.Sent.length - p.Acked.toNat)).getD k dSPost = postAt p who k := by
          rw [getD_eq hk]
          simp [postsK]
        rw [he] at hm ⊢
        have hm : p.Acked + ((k + 1 : Nat) : Int) = (m : Int) + 1 := hm
        refine ⟨by omega, ?_⟩
        show at_ p.Sent (p.Acked.toNat + k) = at_ p.Sent m
        rw [show p.Acked.toNat + k = m from by omega]
theorem post_num {p : SParty} (hz : PSz p) {who : Int} {k : Nat} (hk : k < (postsB p who).1.length) : ((postsB p who).1.getD k dSPost).Number ≤ 1000000000 := by
  by_cases c : ((postsB p who).1.getD k dSPost).Number ≤ 0
  · omega
  · have h1 := (post_fact hk (m := (((postsB p who).1.getD k dSPost).Number - 1).toNat) (by omega)).1
    have := hz.sent
    omega
theorem posts_len {p : SParty} (hz : PSz p) (who : Int) : (postsB p who).1.length ≤ 1048577 := by
  unfold postsB
  cases partyB p && decide (0 ≤ who ∧ who ≤ 1) with
  | true => exact postsL_len p who hz
  | false => exact Nat.zero_le _
theorem tK_pre {lost : List Bool} {who w2 : Int} {p : SParty} {c0 : Nat} {t0 : SParty} (h : preB t0.Got p.Sent = true) : ∀ k, k ≤ (postsB p w2).1.length → preB (tK lost who (postsB p w2).1 c0 t0 k).Got p.Sent = true
  | 0, _ => h
  | k + 1, hk => by
    have ih := tK_pre (lost := lost) (who := who) (w2 := w2) (c0 := c0) h k (by omega)
    unfold tK
    cases lostB lost (c0 + k) with
    | true => exact ih
    | false =>
      rw [cond_false]
      unfold takeB
      cases takes (tK lost who (postsB p w2).1 c0 t0 k) who ((postsB p w2).1.getD k dSPost) with
      | false => exact ih
      | true =>
        rw [cond_true]
        show preB (bif adds _ _ then _ else _) p.Sent = true
        cases hadd : adds (tK lost who (postsB p w2).1 c0 t0 k) ((postsB p w2).1.getD k dSPost) with
        | false => exact ih
        | true =>
          unfold adds at hadd
          rw [Bool.and_eq_true] at hadd
          obtain ⟨q1, q2⟩ := post_fact (by omega) (of_decide_eq_true hadd.1)
          exact preB_snoc ih q1 q2
theorem spec_inner0 {R : Type} {n : Nat} (kx4 : Int → Int → List ByteArray → List ByteArray → Int → List ByteArray → List ByteArray → Option R) (lost : List Bool) (rounds r t38 t41 : Int) (c39 c40 c42 c43 : List ByteArray) (X Y : SParty) (c : Nat) (ps : List SPost)
    (hl : ps.length ≤ 1048577) (hp : ∀ k, k < ps.length → (ps.getD k dSPost).Number ≤ 1000000000) (hY : PSz Y) (hc : c ≤ 400000000) (hn : 1000000000 < n) :
    loopN (fun (x : Int × Int × Int × List ByteArray × List ByteArray × Int × List ByteArray × List ByteArray) J' => spec_Settle21_L16 n kx4 (fun coin201 i202 x203 c204 c205 y206 c207 c208 => J' (coin201, i202, x203, c204, c205, y206, c207, c208)) lost rounds x.1 r 0 x.2.1 t38 c39 c40 t41 c42 c43 x.2.2.1 x.2.2.2.1 x.2.2.2.2.1 x.2.2.2.2.2.1 x.2.2.2.2.2.2.1 x.2.2.2.2.2.2.2 ps) n ((c : Int), (0 : Int), X.Acked, X.Sent, X.Got, Y.Acked, Y.Sent, Y.Got)
      = kx4 ((c + ps.length : Nat) : Int) X.Acked X.Sent X.Got (tK lost 1 ps c Y ps.length).Acked (tK lost 1 ps c Y ps.length).Sent (tK lost 1 ps c Y ps.length).Got := by
  have key := loop_runS (R := R) (S := SParty) (X := Int × Int × Int × List ByteArray × List ByteArray × Int × List ByteArray × List ByteArray) (enc := fun k (t : SParty) => ((c : Int) + k, k, X.Acked, X.Sent, X.Got, t.Acked, t.Sent, t.Got)) (len := ps.length)
    (b := fun x J' => spec_Settle21_L16 n kx4 (fun coin201 i202 x203 c204 c205 y206 c207 c208 => J' (coin201, i202, x203, c204, c205, y206, c207, c208)) lost rounds x.1 r 0 x.2.1 t38 c39 c40 t41 c42 c43 x.2.2.1 x.2.2.2.1 x.2.2.2.2.1 x.2.2.2.2.2.1 x.2.2.2.2.2.2.1 x.2.2.2.2.2.2.2 ps)
    (I := fun k t => t = tK lost 1 ps c Y k) (Q := fun z => z = kx4 ((c + ps.length : Nat) : Int) X.Acked X.Sent X.Got (tK lost 1 ps c Y ps.length).Acked (tK lost 1 ps c Y ps.length).Sent (tK lost 1 ps c Y ps.length).Got) (fun k t J hk hi => ?_) (fun t J hi => ?_) (n := n) (by omega) (s0 := Y) rfl
  · rw [Int.add_zero] at key
    exact key
  · refine ⟨_, rfl, ?_⟩
    have hz : PSz t := by rw [hi]; exact tK_sz hY k
    have ec : (c : Int) + (k : Int) = ((c + k : Nat) : Int) := by omega
    have e2 : w64 (((c + k : Nat) : Int) + 1) = (c : Int) + ((k + 1 : Nat) : Int) := by rw [w64_id (by omega) (by omega)]; omega
    have ht : spec_Take21 n (⟨t.Sent, t.Acked, t.Got⟩ : SParty) 1 (ps.getD k dSPost) = some (takeB t 1 (ps.getD k dSPost)) := take_spec t 1 _ hz (hp k hk) hn
    show spec_Settle21_L16 n kx4 _ lost rounds ((c : Int) + (k : Int)) r 0 (k : Int) t38 c39 c40 t41 c42 c43 X.Acked X.Sent X.Got t.Acked t.Sent t.Got ps = _
    rw [ec]
    unfold spec_Settle21_L16 spec_Settle21_k1 spec_Settle21_k0 tK lostB
    rw [← hi]
    simp only [Int.ofNat_lt, hk, decide_true, cond_true, ix_nat hk, Int.toNat_natCast, chk_true, bd_eq, ht, Option.bind_some, e2, w64_succ (show k < 9223372036854775807 by omega)]
    by_cases h1 : c + k < lost.length
    · rw [decide_eq_true h1, cond_true, ix_nat h1, Bool.true_and]
      cases lost.getD (c + k) false <;> rfl
    · rw [decide_eq_false h1, cond_false, Bool.false_and, cond_false]
  · subst hi
    show spec_Settle21_L16 n kx4 _ lost rounds ((c : Int) + (ps.length : Int)) r 0 (ps.length : Int) t38 c39 c40 t41 c42 c43 X.Acked X.Sent X.Got _ _ _ ps = _
    unfold spec_Settle21_L16
    simp only [Int.lt_irrefl, decide_false, cond_false]
    rw [show (c : Int) + (ps.length : Int) = ((c + ps.length : Nat) : Int) from by omega]
theorem spec_inner1 {R : Type} {n : Nat} (kx4 : Int → Int → List ByteArray → List ByteArray → Int → List ByteArray → List ByteArray → Option R) (lost : List Bool) (rounds r t38 t41 : Int) (c39 c40 c42 c43 : List ByteArray) (X Y : SParty) (c : Nat) (ps : List SPost)
    (hl : ps.length ≤ 1048577) (hp : ∀ k, k < ps.length → (ps.getD k dSPost).Number ≤ 1000000000) (hX : PSz X) (hc : c ≤ 400000000) (hn : 1000000000 < n) :
    loopN (fun (x : Int × Int × Int × List ByteArray × List ByteArray × Int × List ByteArray × List ByteArray) J' => spec_Settle21_L16 n kx4 (fun coin201 i202 x203 c204 c205 y206 c207 c208 => J' (coin201, i202, x203, c204, c205, y206, c207, c208)) lost rounds x.1 r 1 x.2.1 t38 c39 c40 t41 c42 c43 x.2.2.1 x.2.2.2.1 x.2.2.2.2.1 x.2.2.2.2.2.1 x.2.2.2.2.2.2.1 x.2.2.2.2.2.2.2 ps) n ((c : Int), (0 : Int), X.Acked, X.Sent, X.Got, Y.Acked, Y.Sent, Y.Got)
      = kx4 ((c + ps.length : Nat) : Int) (tK lost 0 ps c X ps.length).Acked (tK lost 0 ps c X ps.length).Sent (tK lost 0 ps c X ps.length).Got Y.Acked Y.Sent Y.Got := by
  have key := loop_runS (R := R) (S := SParty) (X := Int × Int × Int × List ByteArray × List ByteArray × Int × List ByteArray × List ByteArray) (enc := fun k (t : SParty) => ((c : Int) + k, k, t.Acked, t.Sent, t.Got, Y.Acked, Y.Sent, Y.Got)) (len := ps.length)
    (b := fun x J' => spec_Settle21_L16 n kx4 (fun coin201 i202 x203 c204 c205 y206 c207 c208 => J' (coin201, i202, x203, c204, c205, y206, c207, c208)) lost rounds x.1 r 1 x.2.1 t38 c39 c40 t41 c42 c43 x.2.2.1 x.2.2.2.1 x.2.2.2.2.1 x.2.2.2.2.2.1 x.2.2.2.2.2.2.1 x.2.2.2.2.2.2.2 ps)
    (I := fun k t => t = tK lost 0 ps c X k) (Q := fun z => z = kx4 ((c + ps.length : Nat) : Int) (tK lost 0 ps c X ps.length).Acked (tK lost 0 ps c X ps.length).Sent (tK lost 0 ps c X ps.length).Got Y.Acked Y.Sent Y.Got) (fun k t J hk hi => ?_) (fun t J hi => ?_) (n := n) (by omega) (s0 := X) rfl
  · rw [Int.add_zero] at key
    exact key
  · refine ⟨_, rfl, ?_⟩
    have hz : PSz t := by rw [hi]; exact tK_sz hX k
    have ec : (c : Int) + (k : Int) = ((c + k : Nat) : Int) := by omega
    have e2 : w64 (((c + k : Nat) : Int) + 1) = (c : Int) + ((k + 1 : Nat) : Int) := by rw [w64_id (by omega) (by omega)]; omega
    have ht : spec_Take21 n (⟨t.Sent, t.Acked, t.Got⟩ : SParty) 0 (ps.getD k dSPost) = some (takeB t 0 (ps.getD k dSPost)) := take_spec t 0 _ hz (hp k hk) hn
    show spec_Settle21_L16 n kx4 _ lost rounds ((c : Int) + (k : Int)) r 1 (k : Int) t38 c39 c40 t41 c42 c43 t.Acked t.Sent t.Got Y.Acked Y.Sent Y.Got ps = _
    rw [ec]
    unfold spec_Settle21_L16 spec_Settle21_k1 spec_Settle21_k0 tK lostB
    rw [← hi]
    simp only [Int.ofNat_lt, hk, decide_true, cond_true, ix_nat hk, Int.toNat_natCast, chk_true, bd_eq, ht, Option.bind_some, e2, w64_succ (show k < 9223372036854775807 by omega), decide_eq_false (show ¬ (1 : Int) = 0 by omega), cond_false]
    by_cases h1 : c + k < lost.length
    · rw [decide_eq_true h1, cond_true, ix_nat h1, Bool.true_and]
      cases lost.getD (c + k) false <;> rfl
    · rw [decide_eq_false h1, cond_false, Bool.false_and, cond_false]
  · subst hi
    show spec_Settle21_L16 n kx4 _ lost rounds ((c : Int) + (ps.length : Int)) r 1 (ps.length : Int) t38 c39 c40 t41 c42 c43 _ _ _ Y.Acked Y.Sent Y.Got ps = _
    unfold spec_Settle21_L16
    simp only [Int.lt_irrefl, decide_false, cond_false]
    rw [show (c : Int) + (ps.length : Int) = ((c + ps.length : Nat) : Int) from by omega]
theorem impl_post {n : Nat} (from0 to2 : SParty) (who w1 : Int) (c : Nat) (lost : List Bool) (hw : w64 (1 - who) = w1) (hf : PSz from0) (ht : PSz to2) (hc : c ≤ 400000000) (hn : 1000000000 < n) :
    impl_Settle21_1 n from0 who to2 (c : Int) lost = some (tK lost w1 (postsB from0 who).1 c to2 (postsB from0 who).1.length, ((c + (postsB from0 who).1.length : Nat) : Int)) := by
  unfold impl_Settle21_1
  rw [again_impl from0 who hf hn, Option.bind_some]
  have hl := posts_len hf who
  generalize (postsB from0 who).1 = ps at *
  have key := loop_runS (S := SParty) (X := Int × Int × Int × List ByteArray × List ByteArray) (enc := fun k (t : SParty) => (k, (c : Int) + k, t.Acked, t.Sent, t.Got)) (len := ps.length)
    (b := fun x J' => impl_Settle21_1_L3 n (fun to107 c108 c109 p110 => some ((⟨c108, to107, c109⟩ : SParty), p110)) (fun t111 p112 to113 c114 c115 => J' (t111, p112, to113, c114, c115)) who lost (ps.length : Int) x.1 x.2.1 x.2.2.1 x.2.2.2.1 x.2.2.2.2 (0 : Int) [] [] ps)
    (I := fun k t => t = tK lost w1 ps c to2 k) (Q := fun z => z = some (tK lost w1 ps c to2 ps.length, ((c + ps.length : Nat) : Int))) (fun k t J hk hi => ?_) (fun t J hi => ?_) (n := n) (by omega) (s0 := to2) rfl
  · rw [Int.add_zero] at key
    exact key
  · refine ⟨_, rfl, ?_⟩
    have hz : PSz t := by rw [hi]; exact tK_sz ht k
    have ec : (c : Int) + (k : Int) = ((c + k : Nat) : Int) := by omega
    have e2 : w64 (((c + k : Nat) : Int) + 1) = (c : Int) + ((k + 1 : Nat) : Int) := by rw [w64_id (by omega) (by omega)]; omega
    have hta : impl_Take21 n (⟨t.Sent, t.Acked, t.Got⟩ : SParty) w1 (ps.getD k dSPost) = some (takeB t w1 (ps.getD k dSPost)) := take_impl t w1 _ hz hn
    show impl_Settle21_1_L3 n _ _ who lost (ps.length : Int) (k : Int) ((c : Int) + (k : Int)) t.Acked t.Sent t.Got 0 [] [] ps = _
    rw [ec]
    unfold impl_Settle21_1_L3 impl_Settle21_1_k0 tK lostB
    rw [← hi]
    simp only [Int.ofNat_lt, hk, decide_true, cond_true, ix_nat hk, Int.toNat_natCast, chk_true, bd_eq, hw, hta, Option.bind_some, e2, w64_succ (show k < 9223372036854775807 by omega)]
    by_cases h1 : c + k < lost.length
    · rw [decide_eq_true h1, decide_eq_false (show ¬ ((c + k : Nat) : Int) ≥ (lost.length : Int) by omega), cond_false, ix_nat h1, Bool.true_and]
      cases lost.getD (c + k) false <;> rfl
    · rw [decide_eq_false h1, decide_eq_true (show ((c + k : Nat) : Int) ≥ (lost.length : Int) by omega), cond_true, Bool.false_and, cond_false]
  · subst hi
    show impl_Settle21_1_L3 n _ _ who lost (ps.length : Int) (ps.length : Int) ((c : Int) + (ps.length : Int)) _ _ _ 0 [] [] ps = _
    unfold impl_Settle21_1_L3
    simp only [Int.lt_irrefl, decide_false, cond_false]
    rw [show (c : Int) + (ps.length : Int) = ((c + ps.length : Nat) : Int) from by omega]
/-! ### Rounds -/
abbrev RSt := SParty × SParty × Nat
def midY (lost : List Bool) (s : RSt) : SParty := tK lost 1 (postsB s.1 0).1 s.2.2 s.2.1 (postsB s.1 0).1.length
def midC (s : RSt) : Nat := s.2.2 + (postsB s.1 0).1.length
def stepR (lost : List Bool) (s : RSt) : RSt := (tK lost 0 (postsB (midY lost s) 1).1 (midC s) s.1 (postsB (midY lost s) 1).1.length, midY lost s, midC s + (postsB (midY lost s) 1).1.length)
def runR (lost : List Bool) (s0 : RSt) : Nat → RSt
  | 0 => s0
  | k + 1 => stepR lost (runR lost s0 k)
structure InvR (a b : SParty) (k : Nat) (s : RSt) : Prop where
  x : PSz s.1
  y : PSz s.2.1
  c : s.2.2 ≤ k * 2100000
  xs : s.1.Sent = a.Sent
  ys : s.2.1.Sent = b.Sent
  xg : preB s.1.Got b.Sent = true
  yg : preB s.2.1.Got a.Sent = true
theorem inv_step {a b : SParty} {k : Nat} {s : RSt} (lost : List Bool) (h : InvR a b k s) : InvR a b (k + 1) (stepR lost s) := by
  have hy : PSz (midY lost s) := tK_sz h.y _
  have l0 := posts_len h.x 0
  have l1 := posts_len hy 1
  have hc := h.c
  have hys : (midY lost s).Sent = b.Sent := (tK_sent _).trans h.ys
  refine ⟨tK_sz h.x _, hy, ?_, (tK_sent _).trans h.xs, hys, ?_, ?_⟩
  · show midC s + _ ≤ _
    unfold midC
    omega
  · have := tK_pre (lost := lost) (who := 0) (w2 := 1) (p := midY lost s) (c0 := midC s) (t0 := s.1) (by rw [hys]; exact h.xg) (postsB (midY lost s) 1).1.length (Nat.le_refl _)
    rw [hys] at this
    exact this
  · have := tK_pre (lost := lost) (who := 1) (w2 := 0) (p := s.1) (c0 := s.2.2) (t0 := s.2.1) (by rw [h.xs]; exact h.yg) (postsB s.1 0).1.length (Nat.le_refl _)
    rw [h.xs] at this
    exact this
theorem inv_run {a b : SParty} {s0 : RSt} (lost : List Bool) (h : InvR a b 0 s0) : ∀ k, InvR a b k (runR lost s0 k)
  | 0 => h
  | k + 1 => inv_step lost (inv_run lost h k)
theorem spec_round {R : Type} {n : Nat} (kx2 : Int → Int → List ByteArray → List ByteArray → Int → List ByteArray → List ByteArray → Option R) (lost : List Bool) (rounds r t38 t41 : Int) (c39 c40 c42 c43 : List ByteArray) (a b : SParty) (k : Nat) (s : RSt) (hk : k ≤ 50) (h : InvR a b k s) (hn : 1000000000 < n) :
    loopN (fun (x : Int × Int × Int × List ByteArray × List ByteArray × Int × List ByteArray × List ByteArray) J' => spec_Settle21_L9 n kx2 (fun coin268 who269 x270 c271 c272 y273 c274 c275 => J' (coin268, who269, x270, c271, c272, y273, c274, c275)) lost rounds x.1 r x.2.1 t38 c39 c40 t41 c42 c43 x.2.2.1 x.2.2.2.1 x.2.2.2.2.1 x.2.2.2.2.2.1 x.2.2.2.2.2.2.1 x.2.2.2.2.2.2.2) n ((s.2.2 : Int), (0 : Int), s.1.Acked, s.1.Sent, s.1.Got, s.2.1.Acked, s.2.1.Sent, s.2.1.Got)
      = kx2 ((stepR lost s).2.2 : Int) (stepR lost s).1.Acked (stepR lost s).1.Sent (stepR lost s).1.Got (stepR lost s).2.1.Acked (stepR lost s).2.1.Sent (stepR lost s).2.1.Got := by
  have hy : PSz (midY lost s) := tK_sz h.y _
  have l0 := posts_len h.x 0
  have l1 := posts_len hy 1
  have hc := h.c
  have hmc : midC s = s.2.2 + (postsB s.1 0).1.length := rfl
  have st0 : ∀ J : Int → Int → Int → List ByteArray → List ByteArray → Int → List ByteArray → List ByteArray → Option R, spec_Settle21_L9 n kx2 J lost rounds (s.2.2 : Int) r 0 t38 c39 c40 t41 c42 c43 s.1.Acked s.1.Sent s.1.Got s.2.1.Acked s.2.1.Sent s.2.1.Got = J ((midC s : Nat) : Int) 1 s.1.Acked s.1.Sent s.1.Got (midY lost s).Acked (midY lost s).Sent (midY lost s).Got := by
    intro J
    unfold spec_Settle21_L9
    rw [decide_eq_true (show (0 : Int) < 2 by omega), decide_eq_false (show ¬ (0 : Int) = 1 by omega), cond_true, cond_false]
    unfold spec_Settle21_k3
    rw [show spec_Again21 n (⟨s.1.Sent, s.1.Acked, s.1.Got⟩ : SParty) 0 = some (postsB s.1 0) from again_spec s.1 0 h.x hn, Option.bind_some]
    rw [spec_inner0 (n := n) _ lost rounds r t38 t41 c39 c40 c42 c43 s.1 s.2.1 s.2.2 (postsB s.1 0).1 l0 (fun k hk => post_num h.x hk) h.y (by omega) hn]
    rw [bd_eq, show w64 ((0 : Int) + 1) = 1 from by rw [w64_id (by omega) (by omega)]; rfl]
    rfl
  have st1 : ∀ J : Int → Int → Int → List ByteArray → List ByteArray → Int → List ByteArray → List ByteArray → Option R, spec_Settle21_L9 n kx2 J lost rounds ((midC s : Nat) : Int) r 1 t38 c39 c40 t41 c42 c43 s.1.Acked s.1.Sent s.1.Got (midY lost s).Acked (midY lost s).Sent (midY lost s).Got = J ((stepR lost s).2.2 : Int) 2 (stepR lost s).1.Acked (stepR lost s).1.Sent (stepR lost s).1.Got (midY lost s).Acked (midY lost s).Sent (midY lost s).Got := by
    intro J
    unfold spec_Settle21_L9
    rw [decide_eq_true (show (1 : Int) < 2 by omega), decide_eq_true (show (1 : Int) = 1 from rfl), cond_true, cond_true]
    unfold spec_Settle21_k2
    rw [show spec_Again21 n (⟨(midY lost s).Sent, (midY lost s).Acked, (midY lost s).Got⟩ : SParty) 1 = some (postsB (midY lost s) 1) from again_spec (midY lost s) 1 hy hn, Option.bind_some]
    rw [spec_inner1 (n := n) _ lost rounds r t38 t41 c39 c40 c42 c43 s.1 (midY lost s) (midC s) (postsB (midY lost s) 1).1 l1 (fun k hk => post_num hy hk) h.x (by omega) hn]
    rw [bd_eq, show w64 ((1 : Int) + 1) = 2 from by rw [w64_id (by omega) (by omega)]; rfl]
    rfl
  have st2 : ∀ (J : Int → Int → Int → List ByteArray → List ByteArray → Int → List ByteArray → List ByteArray → Option R) (c xa : Int) (xs xg : List ByteArray) (ya : Int) (ys yg : List ByteArray), spec_Settle21_L9 n kx2 J lost rounds c r 2 t38 c39 c40 t41 c42 c43 xa xs xg ya ys yg = kx2 c xa xs xg ya ys yg := by
    intro J c xa xs xg ya ys yg
    unfold spec_Settle21_L9
    rw [decide_eq_false (show ¬ (2 : Int) < 2 by omega), cond_false]
  refine (loopN_step (show 0 < n by omega) _).trans ((st0 _).trans ?_)
  refine (loopN_step (show 0 < n - 1 by omega) _).trans ((st1 _).trans ?_)
  exact (loopN_step (show 0 < n - 1 - 1 by omega) _).trans (st2 _ _ _ _ _ _ _ _)
def okB (a b : SParty) (lost : List Bool) (rounds : Int) : Bool := partyB a && (partyB b && (preB a.Got b.Sent && (preB b.Got a.Sent && (!decide (a.Acked > (b.Got.length : Int)) && (!decide (b.Acked > (a.Got.length : Int)) && (!decide ((lost.length : Int) > 2000) && decide (0 ≤ rounds ∧ rounds ≤ 50)))))))
def endR (s : RSt) : SParty × SParty × Bool := (s.1, s.2.1, decide ((s.1.Got.length : Int) = (s.2.1.Sent.length : Int)) && decide ((s.2.1.Got.length : Int) = (s.1.Sent.length : Int)))
def settleB (a b : SParty) (lost : List Bool) (rounds : Int) : SParty × SParty × Bool := bif okB a b lost rounds then endR (runR lost (a, b, 0) rounds.toNat) else (⟨[], 0, []⟩, ⟨[], 0, []⟩, false)
theorem run_spec {n : Nat} (a b : SParty) (lost : List Bool) (rounds : Int) (h : InvR a b 0 (a, b, 0)) (hr : 0 ≤ rounds ∧ rounds ≤ 50) (hn : 1000000000 < n) : spec_Settle21_k5 n lost rounds a b = some (endR (runR lost (a, b, 0) rounds.toNat)) := by
  unfold spec_Settle21_k5
  rw [copy_spec a h.x, copy_spec b h.y, Option.bind_some, Option.bind_some]
  refine loop_runS (S := RSt) (X := Int × Int × Int × List ByteArray × List ByteArray × Int × List ByteArray × List ByteArray) (enc := fun k (s : RSt) => ((s.2.2 : Int), k, s.1.Acked, s.1.Sent, s.1.Got, s.2.1.Acked, s.2.1.Sent, s.2.1.Got)) (len := rounds.toNat)
    (I := fun k s => s = runR lost (a, b, 0) k) (Q := fun z => z = some (endR (runR lost (a, b, 0) rounds.toNat))) (fun k s J hk hi => ?_) (fun s J hi => ?_) (by omega) (s0 := (a, b, 0)) rfl
  · refine ⟨_, rfl, ?_⟩
    have hI : InvR a b k s := by rw [hi]; exact inv_run lost h k
    show spec_Settle21_L6 n _ _ lost rounds (s.2.2 : Int) (k : Int) 0 [] [] 0 [] [] s.1.Acked s.1.Sent s.1.Got s.2.1.Acked s.2.1.Sent s.2.1.Got = _
    unfold spec_Settle21_L6
    rw [decide_eq_true (show (k : Int) < rounds by omega), cond_true]
    unfold spec_Settle21_k4
    rw [spec_round (n := n) _ lost rounds (k : Int) 0 0 [] [] [] [] a b k s (by omega) hI hn, w64_succ (by omega)]
    subst hi
    rfl
  · subst hi
    show spec_Settle21_L6 n _ _ lost rounds _ ((rounds.toNat : Nat) : Int) 0 [] [] 0 [] [] _ _ _ _ _ _ = _
    unfold spec_Settle21_L6
    rw [decide_eq_false (by omega), cond_false]
    unfold endR
    generalize runR lost (a, b, 0) rounds.toNat = s
    dsimp only
    cases decide ((s.1.Got.length : Int) = (s.2.1.Sent.length : Int)) <;> rfl
theorem run_impl {n : Nat} (a b : SParty) (lost : List Bool) (rounds : Int) (h : InvR a b 0 (a, b, 0)) (hr : 0 ≤ rounds ∧ rounds ≤ 50) (hn : 1000000000 < n) : impl_Settle21_k1 n rounds a b lost = some (endR (runR lost (a, b, 0) rounds.toNat)) := by
  unfold impl_Settle21_k1
  rw [own_impl a h.x, own_impl b h.y, Option.bind_some, Option.bind_some]
  refine loop_runS (S := RSt) (X := Int × Int × List ByteArray × List ByteArray × Int × List ByteArray × List ByteArray × Int) (enc := fun k (s : RSt) => (k, s.1.Acked, s.1.Sent, s.1.Got, s.2.1.Acked, s.2.1.Sent, s.2.1.Got, (s.2.2 : Int))) (len := rounds.toNat)
    (I := fun k s => s = runR lost (a, b, 0) k) (Q := fun z => z = some (endR (runR lost (a, b, 0) rounds.toNat))) (fun k s J hk hi => ?_) (fun s J hi => ?_) (by omega) (s0 := (a, b, 0)) rfl
  · refine ⟨_, rfl, ?_⟩
    have hI : InvR a b k s := by rw [hi]; exact inv_run lost h k
    have hy : PSz (midY lost s) := tK_sz hI.y _
    have l0 := posts_len hI.x 0
    have hc := hI.c
    have hmc : midC s = s.2.2 + (postsB s.1 0).1.length := rfl
    have p0 : impl_Settle21_1 n (⟨s.1.Sent, s.1.Acked, s.1.Got⟩ : SParty) 0 (⟨s.2.1.Sent, s.2.1.Acked, s.2.1.Got⟩ : SParty) (s.2.2 : Int) lost = some (midY lost s, ((midC s : Nat) : Int)) := impl_post s.1 s.2.1 0 1 s.2.2 lost (by rw [w64_id (by omega) (by omega)]; rfl) hI.x hI.y (by omega) hn
    have p1 : impl_Settle21_1 n (midY lost s) 1 (⟨s.1.Sent, s.1.Acked, s.1.Got⟩ : SParty) ((midC s : Nat) : Int) lost = some ((stepR lost s).1, (((stepR lost s).2.2 : Nat) : Int)) := impl_post (midY lost s) s.1 1 0 (midC s) lost (by rw [w64_id (by omega) (by omega)]; rfl) hy hI.x (by omega) hn
    show impl_Settle21_L7 n _ _ rounds (k : Int) s.1.Acked s.1.Sent s.1.Got s.2.1.Acked s.2.1.Sent s.2.1.Got 0 [] [] 0 [] [] (s.2.2 : Int) lost = _
    unfold impl_Settle21_L7
    rw [decide_eq_true (show (k : Int) < rounds by omega), cond_true]
    unfold impl_Settle21_k0
    simp only [p0, p1, Option.bind_some, w64_succ (show k < 9223372036854775807 by omega)]
    subst hi
    rfl
  · have hI : InvR a b rounds.toNat s := by rw [hi]; exact inv_run lost h _
    show impl_Settle21_L7 n _ _ rounds ((rounds.toNat : Nat) : Int) s.1.Acked s.1.Sent s.1.Got s.2.1.Acked s.2.1.Sent s.2.1.Got 0 [] [] 0 [] [] (s.2.2 : Int) lost = _
    unfold impl_Settle21_L7
    rw [decide_eq_false (by omega), cond_false]
    dsimp only
    rw [equal_impl _ _ hI.x.got hn, equal_impl _ _ hI.y.got hn, eq_pre (by rw [hI.ys]; exact hI.xg), eq_pre (by rw [hI.xs]; exact hI.yg), Option.bind_some, Option.bind_some, ← hi]
    unfold endR
    cases decide ((s.1.Got.length : Int) = (s.2.1.Sent.length : Int)) <;> rfl
theorem inv0 {a b : SParty} {lost : List Bool} {rounds : Int} (ha : PSz a) (hb : PSz b) (h1 : preB a.Got b.Sent = true) (h2 : preB b.Got a.Sent = true) : InvR a b 0 (a, b, 0) := ⟨ha, hb, Nat.zero_le _, rfl, rfl, h1, h2⟩
theorem settle_spec {n : Nat} (a b : SParty) (lost : List Bool) (rounds : Int) (ha : PSz a) (hb : PSz b) (hn : 1000000000 < n) : spec_Settle21 n a b lost rounds = some (settleB a b lost rounds) := by
  unfold spec_Settle21 settleB okB
  rw [party_spec a ha hn, Option.bind_some, party_spec b hb hn, Option.bind_some, begins_spec _ _ ha.got hn, Option.bind_some, begins_spec _ _ hb.got hn, Option.bind_some, in_spec, Option.bind_some]
  cases partyB a with
  | false => rfl
  | true =>
    cases partyB b with
    | false => rfl
    | true =>
      cases h1 : preB a.Got b.Sent with
      | false => rfl
      | true =>
        cases h2 : preB b.Got a.Sent with
        | false => rfl
        | true =>
          cases decide (a.Acked > (b.Got.length : Int)) with
          | true => rfl
          | false =>
            cases decide (b.Acked > (a.Got.length : Int)) with
            | true => rfl
            | false =>
              cases decide ((lost.length : Int) > 2000) with
              | true => rfl
              | false =>
                by_cases hr : 0 ≤ rounds ∧ rounds ≤ 50
                · rw [decide_eq_true hr]
                  exact run_spec a b lost rounds (inv0 (lost := lost) (rounds := rounds) ha hb h1 h2) hr hn
                · rw [decide_eq_false hr]; rfl
theorem settle_impl {n : Nat} (a b : SParty) (lost : List Bool) (rounds : Int) (ha : PSz a) (hb : PSz b) (hn : 1000000000 < n) : impl_Settle21 n a b lost rounds = some (settleB a b lost rounds) := by
  unfold impl_Settle21 settleB okB
  rw [party_impl a ha hn, Option.bind_some, party_impl b hb hn, Option.bind_some, begins_impl _ _ ha.got hn, Option.bind_some, begins_impl _ _ hb.got hn, Option.bind_some, in_impl, Option.bind_some]
  cases partyB a with
  | false => rfl
  | true =>
    cases partyB b with
    | false => rfl
    | true =>
      cases h1 : preB a.Got b.Sent with
      | false => rfl
      | true =>
        cases h2 : preB b.Got a.Sent with
        | false => rfl
        | true =>
          cases decide (a.Acked > (b.Got.length : Int)) with
          | true => rfl
          | false =>
            cases decide (b.Acked > (a.Got.length : Int)) with
            | true => rfl
            | false =>
              cases decide ((lost.length : Int) > 2000) with
              | true => rfl
              | false =>
                by_cases hr : 0 ≤ rounds ∧ rounds ≤ 50
                · rw [decide_eq_true hr]
                  exact run_impl a b lost rounds (inv0 (lost := lost) (rounds := rounds) ha hb h1 h2) hr hn
                · rw [decide_eq_false hr]; rfl
theorem pre_w {g S : List ByteArray} (h : preB g S = true) : w_LBA g ≤ w_LBA S := by
  have hl := preB_len h
  have e : g = S.take g.length := by
    apply List.ext_getElem
    · rw [List.length_take]; omega
    · intro k h1 h2
      have := (preB_iff.1 h k h1).2
      unfold at_ at this
      rw [getD_eq h1, getD_eq (by omega)] at this
      rw [List.getElem_take]
      exact this
  have h1 : w_LBA g = g.length + sumOf (fun y => y.size) g := rfl
  have h2 : w_LBA S = S.length + sumOf (fun y => y.size) S := rfl
  have h3 := sumOf_take_le (fun y : ByteArray => y.size) S g.length
  rw [← e] at h3
  omega
theorem settle_w (a b : SParty) (lost : List Bool) (rounds : Int) (ha : PSz a) (hb : PSz b) (hwa : w_SParty a ≤ 1048576) (hwb : w_SParty b ≤ 1048576) : w_SParty (settleB a b lost rounds).1 ≤ 2097152 ∧ w_SParty (settleB a b lost rounds).2.1 ≤ 2097152 := by
  unfold settleB
  cases hok : okB a b lost rounds with
  | false => exact ⟨Nat.zero_le _, Nat.zero_le _⟩
  | true =>
    unfold okB at hok
    simp only [Bool.and_eq_true] at hok
    have hI := inv_run lost (inv0 (lost := lost) (rounds := rounds) ha hb hok.2.2.1 hok.2.2.2.1) rounds.toNat
    rw [cond_true]
    unfold endR
    generalize runR lost (a, b, 0) rounds.toNat = s at *
    have w1 : w_SParty a = w_LBA a.Sent + w_LBA a.Got := rfl
    have w2 : w_SParty b = w_LBA b.Sent + w_LBA b.Got := rfl
    have w3 : w_SParty s.1 = w_LBA s.1.Sent + w_LBA s.1.Got := rfl
    have w4 : w_SParty s.2.1 = w_LBA s.2.1.Sent + w_LBA s.2.1.Got := rfl
    have p1 := pre_w hI.xg
    have p2 := pre_w hI.yg
    have e1 := hI.xs
    have e2 := hI.ys
    rw [e1] at w3
    rw [e2] at w4
    dsimp only
    omega
theorem pSz {a : SParty} (h : w_SParty a ≤ 1048576) : PSz a := by
  have w1 : w_SParty a = a.Sent.length + sumOf (fun y => y.size) a.Sent + (a.Got.length + sumOf (fun y => y.size) a.Got) := rfl
  exact ⟨by omega, by omega⟩
theorem laws_FnExactSettle21_true (aA0 : SParty) (aB1 : SParty) (aLost2 : List Bool) (aRounds3 : Int) (h0 : wfSParty aA0) (h1 : wfSParty aB1) (h2 : (aLost2.length ≤ 9223372036854775807 ∧ ∀ y ∈ aLost2, True)) (h3 : rng (-9223372036854775808) 9223372036854775807 aRounds3) : ∃ n, laws_FnExactSettle21 n aA0 aB1 aLost2 aRounds3 = some true := by
  refine ⟨1000000001, ?_⟩
  generalize hN : (1000000001 : Nat) = n
  have hn : 1000000000 < n := by omega
  unfold laws_FnExactSettle21
  rw [bif_dec]
  split
  · rfl
  rename_i hlw
  rw [laws_szParty_ok (n := n) aA0 (left := 1048576) h0 (by omega) (by omega) hn, Option.bind_some]
  refine guard_sz fun hw => ?_
  rw [if_pos (by omega), laws_szParty_ok (n := n) aB1 (left := 1048576 - (w_SParty aA0 : Int)) h1 (by omega) (by omega) hn, Option.bind_some]
  by_cases hw2 : (w_SParty aB1 : Int) ≤ 1048576 - (w_SParty aA0 : Int)
  · rw [if_pos hw2, decide_eq_false (by omega), cond_false]
    have hc : w_LBool aLost2 ≤ 1048576 := by show aLost2.length ≤ _; omega
    have za := pSz hw
    have zb := pSz (a := aB1) (by omega)
    obtain ⟨c1, c2⟩ := settle_w aA0 aB1 aLost2 aRounds3 za zb hw (by omega)
    have hS := settle_spec (n := n) aA0 aB1 aLost2 aRounds3 za zb hn
    have hI := settle_impl (n := n) aA0 aB1 aLost2 aRounds3 za zb hn
    generalize settleB aA0 aB1 aLost2 aRounds3 = R at *
    obtain ⟨R1, R2, R3⟩ := R
    dsimp only at c1 c2
    have nA1 := n_LBA_le aA0.Sent
    have nA2 := n_LBA_le aA0.Got
    have nB1 := n_LBA_le aB1.Sent
    have nB2 := n_LBA_le aB1.Got
    have nL := n_LBool_le aLost2
    have nR1 := n_LBA_le R1.Sent
    have nR2 := n_LBA_le R1.Got
    have nR3 := n_LBA_le R2.Sent
    have nR4 := n_LBA_le R2.Got
    have w1 : w_SParty aA0 = w_LBA aA0.Sent + w_LBA aA0.Got := rfl
    have w2 : w_SParty aB1 = w_LBA aB1.Sent + w_LBA aB1.Got := rfl
    have w3 : w_SParty R1 = w_LBA R1.Sent + w_LBA R1.Got := rfl
    have w4 : w_SParty R2 = w_LBA R2.Sent + w_LBA R2.Got := rfl
    obtain ⟨u0, u1, m1, m2⟩ := laws_markParty_ok (n := n) aA0 1 (by omega) (by omega) (by omega) hn
    obtain ⟨u2, u3, m3, m4⟩ := laws_markParty_ok (n := n) aB1 (1 + ((n_LBA aA0.Sent + n_LBA aA0.Got : Nat) : Int)) (by omega) (by omega) (by omega) hn
    obtain ⟨u4, m5⟩ := laws_markBoolS_ok (n := n) aLost2 (1 + ((n_LBA aA0.Sent + n_LBA aA0.Got : Nat) : Int) + ((n_LBA aB1.Sent + n_LBA aB1.Got : Nat) : Int)) (by omega) (by omega) (by omega) hn
    obtain ⟨v0, v1, p1, p2⟩ := laws_markParty_ok (n := n) R1 1 (by omega) (by omega) (by omega) hn
    obtain ⟨v2, v3, p3, p4⟩ := laws_markParty_ok (n := n) R2 (1 + ((n_LBA R1.Sent + n_LBA R1.Got : Nat) : Int)) (by omega) (by omega) (by omega) hn
    have d1 : decide (1 + ((n_LBA aA0.Sent + n_LBA aA0.Got : Nat) : Int) + ((n_LBA aB1.Sent + n_LBA aB1.Got : Nat) : Int) + ((n_LBool aLost2 : Nat) : Int) < 0) = false := decide_eq_false (by omega)
    have d2 : decide (1 + ((n_LBA R1.Sent + n_LBA R1.Got : Nat) : Int) < 0) = false := decide_eq_false (by omega)
    have d3 : decide (1 + ((n_LBA R1.Sent + n_LBA R1.Got : Nat) : Int) + ((n_LBA R2.Sent + n_LBA R2.Got : Nat) : Int) < 0) = false := decide_eq_false (by omega)
    have q2 := p2 ⟨v0, R1.Acked, v1⟩ rfl rfl
    have q4 := p4 ⟨v2, R2.Acked, v3⟩ rfl rfl
    unfold laws_FnExactSettle21_k7 laws_FnExactSettle21_k6 laws_FnExactSettle21_k5 laws_FnExactSettle21_k4 laws_FnExactSettle21_k3 laws_FnExactSettle21_k2 laws_FnExactSettle21_k1 laws_FnExactSettle21_k0
    simp only [laws_toParty_ok aA0 (show _ ≤ 100000000 by omega) hn, laws_toParty_ok aB1 (show _ ≤ 100000000 by omega) hn, laws_toBoolS_ok aLost2 (show _ ≤ 100000000 by omega) hn, hS, hI, Option.bind_some, laws_eqParty_ok aA0 (show _ ≤ 100000000 by omega) hn, laws_eqParty_ok aB1 (show _ ≤ 100000000 by omega) hn, laws_eqBoolS_ok aLost2 (show _ ≤ 100000000 by omega) hn, laws_eqParty_ok R1 (show _ ≤ 100000000 by omega) hn, laws_eqParty_ok R2 (show _ ≤ 100000000 by omega) hn,
      m1, m3, m5, p1, p3, q2, q4, d1, d2, d3, decide_true, beq_self_eq_true, Bool.not_true, cond_false, cond_true]
  · rw [if_neg hw2]; rfl
end Go.Sm
end
