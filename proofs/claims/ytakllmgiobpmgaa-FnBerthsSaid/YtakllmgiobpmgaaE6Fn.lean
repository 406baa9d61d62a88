import Derived.Test.YtakllmgiobpmgaaEngA
/- The functions as plain functions over data, and that the law answers true for all arguments. Berths: of drawn quays all that can be berthed is berthed, none over another, and nothing that lay is moved. -/
section
set_option linter.unusedSimpArgs false
set_option linter.deprecated false
set_option linter.unusedSectionVars false
set_option linter.unusedVariables false
namespace Go.Sm
structure SCall where
  Id : Int
  Long : Int
  From : Int
  To : Int
  At : Int
structure Sl1Cur where
  b : List Int
  i : Int
  h : Int
def dSCall : SCall := ⟨(0 : Int), (0 : Int), (0 : Int), (0 : Int), (0 : Int)⟩
def dSl1Cur : Sl1Cur := ⟨[], (0 : Int), (0 : Int)⟩
def laws_big (n : Nat) (code0 : List Int) : Option Bool :=
  some ((decide ((code0.length : Int) > (1048576 : Int))))
def spec_l1New_k0 {R : Type} (n : Nat) (kx0 : Int → Option R) (J : Int → Int → Option R) (code2 : List Int) (h8 : Int) (i9 : Int) : Option R :=
  ix i9 code2.length ((bd (w64 ((w64 (h8 * (131 : Int))) + (w64 (code2.getD i9.toNat (0 : Int))))) fun (v10 : Int) => (bd (w64 (((BitVec.ofInt 64 (w64 (v10 + (7 : Int))) &&& BitVec.ofInt 64 (1073741823 : Int)).toNat : Nat) : Int)) fun (v11 : Int) => J v11 (w64 (i9 + (1 : Int))))))
def spec_l1New_L3 {R : Type} (n : Nat) (kx0 : Int → Option R) (J : Int → Int → Option R) (code2 : List Int) (h3 : Int) (i4 : Int) : Option R :=
  (bif (decide (i4 < (code2.length : Int))) then (bif (decide (i4 < (4000 : Int))) then spec_l1New_k0 n kx0 J code2 h3 i4 else kx0 h3) else kx0 h3)
def spec_l1New (n : Nat) (code0 : List Int) : Option Sl1Cur :=
  (bd (w64 ((59059 : Int) + (code0.length : Int))) fun (v1 : Int) => loopN (fun (x : Int × Int) J' => spec_l1New_L3 n (fun h16 => some ((⟨code0, (0 : Int), h16⟩ : Sl1Cur))) (fun h17 i18 => J' (h17, i18)) code0 x.1 x.2) n (v1, (0 : Int)))
def spec_l1Byte (n : Nat) (c0 : Sl1Cur) : Option (Int × Sl1Cur) :=
  (bd (w64 (c0.h * (6364136223846793005 : Int))) fun (v1 : Int) => (bd (w64 (v1 + (1442695040888963407 : Int))) fun (v2 : Int) => (bd (Int.fdiv v2 (2 ^ (min (33 : Int).toNat 64))) fun (v3 : Int) => (bd (Int.fdiv v2 (2 ^ (min (45 : Int).toNat 64))) fun (v4 : Int) => (bd (w64 (((BitVec.ofInt 64 v3 ^^^ BitVec.ofInt 64 v4).toNat : Nat) : Int)) fun (v5 : Int) => (bd (w64 (((BitVec.ofInt 64 v5 &&& BitVec.ofInt 64 (255 : Int)).toNat : Nat) : Int)) fun (v6 : Int) => (bif (decide (c0.i < (c0.b.length : Int))) then ix c0.i c0.b.length ((bd (w64 (v6 + (w64 (c0.b.getD c0.i.toNat (0 : Int))))) fun (v7 : Int) => (bd (w64 (((BitVec.ofInt 64 v7 &&& BitVec.ofInt 64 (255 : Int)).toNat : Nat) : Int)) fun (v8 : Int) => some (v8, (⟨c0.b, (w64 (c0.i + (1 : Int))), v2⟩ : Sl1Cur))))) else some (v6, (⟨c0.b, c0.i, v2⟩ : Sl1Cur)))))))))
def spec_l1Below_k0 (n : Nat)  (n1 : Int) (p3 : Sl1Cur) : Option (Int × Sl1Cur) :=
  (spec_l1Byte n p3).bind fun r4 => (spec_l1Byte n r4.2).bind fun r5 => (spec_l1Byte n r5.2).bind fun r6 => (spec_l1Byte n r6.2).bind fun r7 => (bd (w64 (r4.1 * (16777216 : Int))) fun (v8 : Int) => (bd (w64 (r5.1 * (65536 : Int))) fun (v9 : Int) => (bd (w64 (r6.1 * (256 : Int))) fun (v10 : Int) => (bd (w64 ((w64 (v8 + v9)) + v10)) fun (v11 : Int) => (bif decide (n1 = 0) then none else (bd (Int.tmod (w64 (v11 + r7.1)) n1) fun (v12 : Int) => some (v12, r7.2)))))))
def spec_l1Below (n : Nat) (c0 : Sl1Cur) (n1 : Int) : Option (Int × Sl1Cur) :=
  (bif (decide (n1 ≤ (0 : Int))) then some ((0 : Int), c0) else (bif (decide (n1 ≤ (256 : Int))) then (spec_l1Byte n c0).bind fun r13 => (bif decide (n1 = 0) then none else some ((Int.tmod r13.1 n1), r13.2)) else spec_l1Below_k0 n  n1 c0))
def spec_l1Once (n : Nat) (c0 : Sl1Cur) (n1 : Int) : Option (Bool × Sl1Cur) :=
  (spec_l1Below n c0 n1).bind fun r1 => some ((decide (r1.1 = (0 : Int))), r1.2)
def spec_l17Meet (n : Nat) (a0 : SCall) (b1 : SCall) : Option Bool :=
  (bif (decide (a0.At ≥ (0 : Int))) then (bif (decide (b1.At ≥ (0 : Int))) then (bif (decide (a0.From < b1.To)) then (bif (decide (b1.From < a0.To)) then (bif (decide (a0.At < (w64 (b1.At + b1.Long)))) then some ((decide (b1.At < (w64 (a0.At + a0.Long))))) else some (false)) else some (false)) else some (false)) else some (false)) else some (false))
def spec_l1In (n : Nat) (x0 : Int) (a1 : Int) (b2 : Int) : Option Bool :=
  (bif (decide (x0 ≥ a1)) then some ((decide (x0 ≤ b2))) else some (false))
def spec_l1Minute (n : Nat) (x0 : Int) : Option Bool :=
  (spec_l1In n x0 (0 : Int) (100000000 : Int)).bind fun r1 => some (r1)
def spec_CallsOk_k0 {R : Type} (n : Nat) (kx0 : Option R) (kxr : Bool → Option R) (J : Int → Option R) (long3 : Int) (calls4 : List SCall) (i6 : Int) : Option R :=
  ix i6 calls4.length ((bd (calls4.getD i6.toNat dSCall) fun (e7 : SCall) => (spec_l1In n e7.Id (1 : Int) (1000000 : Int)).bind fun r8 => (bif (!r8) then kxr false else (bif (decide (i6 > (0 : Int))) then ix (w64 (i6 - (1 : Int))) calls4.length ((bd (calls4.getD ((w64 (i6 - (1 : Int))).toNat) dSCall) fun (e10 : SCall) => (bif (decide (e10.Id ≥ e7.Id)) then kxr false else (spec_l1In n e7.Long (1 : Int) (1000 : Int)).bind fun r12 => (bif (!r12) then kxr false else (spec_l1Minute n e7.From).bind fun r14 => (bif (!r14) then kxr false else (spec_l1Minute n e7.To).bind fun r16 => (bif (!r16) then kxr false else (bif (decide (e7.From ≥ e7.To)) then kxr false else (spec_l1In n e7.At (-1 : Int) (1000 : Int)).bind fun r19 => (bif (!r19) then kxr false else (bif (decide (e7.At ≥ (0 : Int))) then (bif (decide ((w64 (e7.At + e7.Long)) > long3)) then kxr false else J (w64 (i6 + (1 : Int)))) else J (w64 (i6 + (1 : Int)))))))))))) else (spec_l1In n e7.Long (1 : Int) (1000 : Int)).bind fun r28 => (bif (!r28) then kxr false else (spec_l1Minute n e7.From).bind fun r30 => (bif (!r30) then kxr false else (spec_l1Minute n e7.To).bind fun r32 => (bif (!r32) then kxr false else (bif (decide (e7.From ≥ e7.To)) then kxr false else (spec_l1In n e7.At (-1 : Int) (1000 : Int)).bind fun r35 => (bif (!r35) then kxr false else (bif (decide (e7.At ≥ (0 : Int))) then (bif (decide ((w64 (e7.At + e7.Long)) > long3)) then kxr false else J (w64 (i6 + (1 : Int)))) else J (w64 (i6 + (1 : Int)))))))))))))
def spec_CallsOk_L4 {R : Type} (n : Nat) (kx0 : Option R) (kxr : Bool → Option R) (J : Int → Option R) (long3 : Int) (calls4 : List SCall) (i5 : Int) : Option R :=
  (bif (decide (i5 < (calls4.length : Int))) then spec_CallsOk_k0 n kx0 kxr J long3 calls4 i5 else kx0)
def spec_CallsOk (n : Nat) (long0 : Int) (calls1 : List SCall) : Option Bool :=
  (spec_l1In n long0 (1 : Int) (1000 : Int)).bind fun r1 => (bif (!r1) then some (false) else (bif (decide ((calls1.length : Int) > (24 : Int))) then some (false) else loopN (fun (x : Int) J' => spec_CallsOk_L4 n (some (true)) (fun t46 => some (t46)) J' long0 calls1 x) n ((0 : Int))))
def spec_Clear17_L5 {R : Type} (n : Nat) (kx2 : Option R) (kxr : Bool → Option R) (J : Int → Option R) (long5 : Int) (calls6 : List SCall) (i7 : Int) (k8 : Int) : Option R :=
  (bif (decide (k8 < i7)) then ix i7 calls6.length ((bd (calls6.getD i7.toNat dSCall) fun (e14 : SCall) => ix k8 calls6.length ((bd (calls6.getD k8.toNat dSCall) fun (e15 : SCall) => (spec_l17Meet n e14 e15).bind fun r16 => (bif r16 then kxr false else J (w64 (k8 + (1 : Int)))))))) else kx2)
def spec_Clear17_L2 {R : Type} (n : Nat) (kx0 : Option R) (kxr : Bool → Option R) (J : Int → Option R) (long1 : Int) (calls2 : List SCall) (i3 : Int) : Option R :=
  (bif (decide (i3 < (calls2.length : Int))) then loopN (fun (x : Int) J' => spec_Clear17_L5 n (J (w64 (i3 + (1 : Int)))) (fun t20 => kxr t20) J' long1 calls2 i3 x) n ((0 : Int)) else kx0)
def spec_Clear17 (n : Nat) (long0 : Int) (calls1 : List SCall) : Option Bool :=
  loopN (fun (x : Int) J' => spec_Clear17_L2 n ((spec_CallsOk n long0 calls1).bind fun r22 => some (r22)) (fun t23 => some (t23)) J' long0 calls1 x) n ((0 : Int))
def spec_Berth_k0 {R : Type} (n : Nat) (kx4 : Bool → Option R) (J : Bool → Int → Option R) (long19 : Int) (calls20 : List SCall) (id21 : Int) (i22 : Int) (at23 : Int) (free27 : Bool) (k28 : Int) (x26 : SCall) : Option R :=
  (bif free27 then (bif (decide (k28 = i22)) then J true (w64 (k28 + (1 : Int))) else ix k28 calls20.length ((bd (calls20.getD k28.toNat dSCall) fun (e30 : SCall) => (spec_l17Meet n x26 e30).bind fun r31 => J (!r31) (w64 (k28 + (1 : Int)))))) else J false (w64 (k28 + (1 : Int))))
def spec_Berth_L14 {R : Type} (n : Nat) (kx4 : Bool → Option R) (J : Bool → Int → Option R) (long19 : Int) (calls20 : List SCall) (id21 : Int) (i22 : Int) (at23 : Int) (free24 : Bool) (k25 : Int) (x26 : SCall) : Option R :=
  (bif (decide (k25 < (calls20.length : Int))) then spec_Berth_k0 n kx4 J long19 calls20 id21 i22 at23 free24 k25 x26 else kx4 free24)
def spec_Berth_k1 {R : Type} (n : Nat) (kx2 : Option R) (kxr : Int → Bool → Option R) (J : Int → SCall → Option R) (long11 : Int) (calls12 : List SCall) (id13 : Int) (i14 : Int) (at17 : Int) (x18 : SCall) : Option R :=
  loopN (fun (x : Bool × Int) J' => spec_Berth_L14 n (fun free35 => (bif free35 then kxr at17 true else J (w64 (at17 + (1 : Int))) (⟨x18.Id, x18.Long, x18.From, x18.To, at17⟩ : SCall))) (fun free42 k43 => J' (free42, k43)) long11 calls12 id13 i14 at17 x.1 x.2 (⟨x18.Id, x18.Long, x18.From, x18.To, at17⟩ : SCall)) n (true, (0 : Int))
def spec_Berth_L9 {R : Type} (n : Nat) (kx2 : Option R) (kxr : Int → Bool → Option R) (J : Int → SCall → Option R) (long11 : Int) (calls12 : List SCall) (id13 : Int) (i14 : Int) (at15 : Int) (x16 : SCall) : Option R :=
  (bif (decide ((w64 (at15 + x16.Long)) ≤ long11)) then spec_Berth_k1 n kx2 kxr J long11 calls12 id13 i14 at15 x16 else kx2)
def spec_Berth_k2 {R : Type} (n : Nat) (kx0 : Option R) (kxr : Int → Bool → Option R) (J : Int → Option R) (long2 : Int) (calls3 : List SCall) (id4 : Int) (i6 : Int) : Option R :=
  ix i6 calls3.length ((bd (calls3.getD i6.toNat dSCall) fun (e7 : SCall) => (bif (!(decide (e7.Id = id4))) then J (w64 (i6 + (1 : Int))) else loopN (fun (x : Int × SCall) J' => spec_Berth_L9 n (J (w64 (i6 + (1 : Int)))) (fun t50 t51 => kxr t50 t51) (fun at52 x53 => J' (at52, x53)) long2 calls3 id4 i6 x.1 x.2) n ((0 : Int), e7))))
def spec_Berth_L4 {R : Type} (n : Nat) (kx0 : Option R) (kxr : Int → Bool → Option R) (J : Int → Option R) (long2 : Int) (calls3 : List SCall) (id4 : Int) (i5 : Int) : Option R :=
  (bif (decide (i5 < (calls3.length : Int))) then spec_Berth_k2 n kx0 kxr J long2 calls3 id4 i5 else kx0)
def spec_Berth (n : Nat) (long0 : Int) (calls1 : List SCall) (id2 : Int) : Option (Int × Bool) :=
  (spec_Clear17 n long0 calls1).bind fun r1 => (bif (!r1) then some ((-1 : Int), false) else loopN (fun (x : Int) J' => spec_Berth_L4 n (some ((-1 : Int), false)) (fun t57 t58 => some (t57, t58)) J' long0 calls1 id2 x) n ((0 : Int)))
def spec_l17DrawCalls_k0 {R : Type} (n : Nat) (kx0 : List SCall → Sl1Cur → Option R) (J : Int → Int → Sl1Cur → List SCall → Option R) (placed4 : Bool) (long5 : Int) (id29 : Int) (i30 : Int) (t31 : Bool) (p32 : Sl1Cur) (out33 : List SCall) : Option R :=
  (bif t31 then (spec_Berth n long5 out33 id29).bind fun r34 => (bif r34.2 then (bd (w64 ((out33.length : Int) - (1 : Int))) fun (v35 : Int) => ix v35 out33.length (chk (decide (v35.toNat < out33.length)) ((bd (out33.getD v35.toNat dSCall) fun (e36 : SCall) => (bd (out33.set v35.toNat (⟨e36.Id, e36.Long, e36.From, e36.To, r34.1⟩ : SCall)) fun (l37 : List SCall) => J id29 (w64 (i30 - (1 : Int))) p32 l37))))) else J id29 (w64 (i30 - (1 : Int))) p32 out33) else J id29 (w64 (i30 - (1 : Int))) p32 out33)
def spec_l17DrawCalls_k1 {R : Type} (n : Nat) (kx0 : List SCall → Sl1Cur → Option R) (J : Int → Int → Sl1Cur → List SCall → Option R) (placed4 : Bool) (long5 : Int) (id19 : Int) (i20 : Int) (p21 : Sl1Cur) (out22 : List SCall) (x23 : Int) (x24 : Int) : Option R :=
  (spec_l1Below n p21 (40 : Int)).bind fun r25 => (bd (w64 ((w64 (x24 + (1 : Int))) + r25.1)) fun (v26 : Int) => (bd (out22 ++ [(⟨x23, long5, x24, v26, (-1 : Int)⟩ : SCall)]) fun (l27 : List SCall) => chk (decide (l27.length * 40 ≤ 140737488355328)) ((bif placed4 then (spec_l1Once n r25.2 (2 : Int)).bind fun r28 => spec_l17DrawCalls_k0 n kx0 J placed4 long5 id19 i20 r28.1 r28.2 l27 else J id19 (w64 (i20 - (1 : Int))) r25.2 l27))))
def spec_l17DrawCalls_k2 {R : Type} (n : Nat) (kx0 : List SCall → Sl1Cur → Option R) (J : Int → Int → Sl1Cur → List SCall → Option R) (placed4 : Bool) (long5 : Int) (id62 : Int) (i63 : Int) (p64 : Sl1Cur) (out65 : List SCall) (x66 : Int) (x67 : Int) (x68 : Int) : Option R :=
  (spec_l1Below n p64 (40 : Int)).bind fun r69 => (bd (w64 ((w64 (x68 + (1 : Int))) + r69.1)) fun (v70 : Int) => (bd (out65 ++ [(⟨x66, x67, x68, v70, (-1 : Int)⟩ : SCall)]) fun (l71 : List SCall) => chk (decide (l71.length * 40 ≤ 140737488355328)) ((bif placed4 then (spec_l1Once n r69.2 (2 : Int)).bind fun r72 => spec_l17DrawCalls_k0 n kx0 J placed4 long5 id62 i63 r72.1 r72.2 l71 else J id62 (w64 (i63 - (1 : Int))) r69.2 l71))))
def spec_l17DrawCalls_k3 {R : Type} (n : Nat) (kx0 : List SCall → Sl1Cur → Option R) (J : Int → Int → Sl1Cur → List SCall → Option R) (placed4 : Bool) (long5 : Int) (id10 : Int) (i11 : Int) (p12 : Sl1Cur) (out13 : List SCall) : Option R :=
  (spec_l1Below n p12 (3 : Int)).bind fun r14 => (bd (w64 ((w64 (id10 + (1 : Int))) + r14.1)) fun (v15 : Int) => (spec_l1Below n r14.2 (15 : Int)).bind fun r16 => (bd (w64 ((1 : Int) + r16.1)) fun (v17 : Int) => (spec_l1Below n r16.2 (60 : Int)).bind fun r18 => (bif (decide (v17 > long5)) then spec_l17DrawCalls_k1 n kx0 J placed4 long5 v15 i11 r18.2 out13 v15 r18.1 else spec_l17DrawCalls_k2 n kx0 J placed4 long5 v15 i11 r18.2 out13 v15 v17 r18.1)))
def spec_l17DrawCalls_L5 {R : Type} (n : Nat) (kx0 : List SCall → Sl1Cur → Option R) (J : Int → Int → Sl1Cur → List SCall → Option R) (placed4 : Bool) (long5 : Int) (id6 : Int) (i7 : Int) (p8 : Sl1Cur) (out9 : List SCall) : Option R :=
  (bif (decide (i7 > (0 : Int))) then spec_l17DrawCalls_k3 n kx0 J placed4 long5 id6 i7 p8 out9 else kx0 out9 p8)
def spec_l17DrawCalls (n : Nat) (c0 : Sl1Cur) (placed1 : Bool) : Option (Int × List SCall × Sl1Cur) :=
  (spec_l1Below n c0 (40 : Int)).bind fun r1 => (bd (w64 ((10 : Int) + r1.1)) fun (v2 : Int) => (spec_l1Below n r1.2 (8 : Int)).bind fun r3 => loopN (fun (x : Int × Int × Sl1Cur × List SCall) J' => spec_l17DrawCalls_L5 n (fun out86 p87 => some (v2, out86, p87)) (fun id88 i89 p90 out91 => J' (id88, i89, p90, out91)) placed1 v2 x.1 x.2.1 x.2.2.1 x.2.2.2) n ((0 : Int), r3.1, r3.2, []))
def spec_DrawQuay (n : Nat) (code0 : List Int) : Option (Int × List SCall) :=
  (spec_l1New n code0).bind fun r1 => (spec_l17DrawCalls n r1 true).bind fun r2 => some (r2.1, r2.2.1)
def impl_in (n : Nat) (n0 : Int) (least1 : Int) (most2 : Int) : Option Bool :=
  (bif (decide (n0 ≥ least1)) then some ((decide (n0 ≤ most2))) else some (false))
def impl_idRight (n : Nat) (n0 : Int) : Option Bool :=
  (impl_in n n0 (1 : Int) (1000000 : Int)).bind fun r1 => some (r1)
def impl_minuteOk (n : Nat) (n0 : Int) : Option Bool :=
  (impl_in n n0 (0 : Int) (100000000 : Int)).bind fun r1 => some (r1)
def impl_callOk (n : Nat) (long0 : Int) (c1 : SCall) : Option Bool :=
  (impl_idRight n c1.Id).bind fun r1 => (bif r1 then (impl_in n c1.Long (1 : Int) (1000 : Int)).bind fun r2 => (bif r2 then (impl_minuteOk n c1.From).bind fun r3 => (bif r3 then (impl_minuteOk n c1.To).bind fun r4 => (bif r4 then (bif (decide (c1.From < c1.To)) then (bif (decide (c1.At = (-1 : Int))) then some (true) else (impl_in n c1.At (0 : Int) (w64 (long0 - c1.Long))).bind fun r5 => some (r5)) else some (false)) else some (false)) else some (false)) else some (false)) else some (false))
def impl_CallsOk_k0 {R : Type} (n : Nat) (kx0 : Option R) (kxr : Bool → Option R) (J : Int → Option R) (long3 : Int) (calls4 : List SCall) (t5 : List SCall) (t6 : Int) (t8 : Int) : Option R :=
  ix t8 t5.length ((bd (t5.getD t8.toNat dSCall) fun (e9 : SCall) => (impl_callOk n long3 e9).bind fun r10 => (bif (!r10) then kxr false else (bif (decide (t8 > (0 : Int))) then ix (w64 (t8 - (1 : Int))) calls4.length ((bd (calls4.getD ((w64 (t8 - (1 : Int))).toNat) dSCall) fun (e12 : SCall) => (bif (decide (e12.Id ≥ e9.Id)) then kxr false else J (w64 (t8 + (1 : Int)))))) else J (w64 (t8 + (1 : Int)))))))
def impl_CallsOk_L4 {R : Type} (n : Nat) (kx0 : Option R) (kxr : Bool → Option R) (J : Int → Option R) (long3 : Int) (calls4 : List SCall) (t5 : List SCall) (t6 : Int) (t7 : Int) : Option R :=
  (bif (decide (t7 < t6)) then impl_CallsOk_k0 n kx0 kxr J long3 calls4 t5 t6 t7 else kx0)
def impl_CallsOk (n : Nat) (long0 : Int) (calls1 : List SCall) : Option Bool :=
  (impl_in n long0 (1 : Int) (1000 : Int)).bind fun r1 => (bif (!r1) then some (false) else (bif (decide ((calls1.length : Int) > (24 : Int))) then some (false) else loopN (fun (x : Int) J' => impl_CallsOk_L4 n (some (true)) (fun t24 => some (t24)) J' long0 calls1 calls1 (calls1.length : Int) x) n ((0 : Int))))
def impl_shares (n : Nat) (a0 : SCall) (b1 : SCall) : Option Bool :=
  (bif (decide (a0.At ≥ (0 : Int))) then (bif (decide (b1.At ≥ (0 : Int))) then (bif (decide (a0.From < b1.To)) then (bif (decide (b1.From < a0.To)) then (bif (decide (a0.At < (w64 (b1.At + b1.Long)))) then some ((decide (b1.At < (w64 (a0.At + a0.Long))))) else some (false)) else some (false)) else some (false)) else some (false)) else some (false))
def impl_Clear17_1 (n : Nat) (x0 : SCall) (a1 : SCall) : Option Bool :=
  (impl_shares n x0 a1).bind fun r1 => some (r1)
def slices_IndexFunc_impl_Call_impl_Call__impl_Clear17_1_L2 {R : Type} (n : Nat) (kx0 : Option R) (kxr : Int → Option R) (J : Int → Option R) (s1 : List SCall) (f2 : SCall) (t3 : Int) (t4 : Int) : Option R :=
  (bif (decide (t4 < t3)) then ix t4 s1.length ((bd (s1.getD t4.toNat dSCall) fun (e9 : SCall) => (impl_Clear17_1 n e9 f2).bind fun r10 => (bif r10 then kxr t4 else J (w64 (t4 + (1 : Int)))))) else kx0)
def slices_IndexFunc_impl_Call_impl_Call__impl_Clear17_1 (n : Nat) (s0 : List SCall) (f1c0 : SCall) : Option Int :=
  loopN (fun (x : Int) J' => slices_IndexFunc_impl_Call_impl_Call__impl_Clear17_1_L2 n (some ((-1 : Int))) (fun t12 => some (t12)) J' s0 f1c0 (s0.length : Int) x) n ((0 : Int))
def slices_ContainsFunc_impl_Call_impl_Call__impl_Clear17_1 (n : Nat) (s0 : List SCall) (f1c0 : SCall) : Option Bool :=
  (slices_IndexFunc_impl_Call_impl_Call__impl_Clear17_1 n s0 f1c0).bind fun r1 => some ((decide (r1 ≥ (0 : Int))))
def impl_Clear17_L4 {R : Type} (n : Nat) (kx0 : Option R) (kxr : Bool → Option R) (J : Int → Option R) (calls2 : List SCall) (t3 : List SCall) (t4 : Int) (t5 : Int) : Option R :=
  (bif (decide (t5 < t4)) then ix t5 t3.length ((bd (t3.getD t5.toNat dSCall) fun (e10 : SCall) => chk (decide ((0 : Int) ≤ t5)) (chk (decide (t5 ≤ (calls2.length : Int))) ((slices_ContainsFunc_impl_Call_impl_Call__impl_Clear17_1 n (calls2.take t5.toNat) e10).bind fun r11 => (bif r11 then kxr false else J (w64 (t5 + (1 : Int)))))))) else kx0)
def impl_Clear17 (n : Nat) (long0 : Int) (calls1 : List SCall) : Option Bool :=
  (impl_CallsOk n long0 calls1).bind fun r1 => (bif (!r1) then some (false) else loopN (fun (x : Int) J' => impl_Clear17_L4 n (some (true)) (fun t15 => some (t15)) J' calls1 calls1 (calls1.length : Int) x) n ((0 : Int)))
def impl_own_impl_Call (n : Nat) (l0 : List SCall) : Option (List SCall) :=
  chk (decide ((0 : Int) ≤ (l0.length : Int))) (chk (decide ((l0.length : Int) ≤ 9223372036854775807 ∧ (l0.length : Int) * (40 : Int) ≤ 281474976710656)) (chk (decide (l0.length * 40 ≤ 140737488355328)) (some (l0))))
def cmp_isNaN_int (n : Nat) (x0 : Int) : Option Bool :=
  some ((!(decide (x0 = x0))))
def cmp_Compare_int (n : Nat) (x0 : Int) (y1 : Int) : Option Int :=
  (cmp_isNaN_int n x0).bind fun r1 => (cmp_isNaN_int n y1).bind fun r2 => (bif r1 then (bif r2 then some ((0 : Int)) else some ((-1 : Int))) else (bif r2 then some ((1 : Int)) else (bif (decide (x0 < y1)) then some ((-1 : Int)) else (bif (decide (x0 > y1)) then some ((1 : Int)) else some ((0 : Int))))))
def impl_BerthAll_1 (n : Nat) (a0 : Int) (b1 : Int) (a2 : List SCall) : Option Int :=
  ix a0 a2.length ((bd (a2.getD a0.toNat dSCall) fun (e1 : SCall) => ix b1 a2.length ((bd (a2.getD b1.toNat dSCall) fun (e2 : SCall) => (cmp_Compare_int n e1.From e2.From).bind fun r3 => some (r3)))))
def slices_insertionSortCmpFunc_int__impl_BerthAll_1_k0 {R : Type} (n : Nat) (kx2 : List Int → Option R) (J : Int → List Int → Option R) (a8 : Int) (b9 : Int) (cmp10 : List SCall) (i11 : Int) (j18 : Int) (p19 : List Int) : Option R :=
  ix (w64 (j18 - (1 : Int))) p19.length (chk (decide ((w64 (j18 - (1 : Int))).toNat < p19.length)) (ix j18 p19.length (chk (decide (j18.toNat < p19.length)) (ix j18 p19.length (chk (decide (j18.toNat < p19.length)) ((bd (p19.set j18.toNat (p19.getD ((w64 (j18 - (1 : Int))).toNat) (0 : Int))) fun (l20 : List Int) => ix (w64 (j18 - (1 : Int))) l20.length (chk (decide ((w64 (j18 - (1 : Int))).toNat < l20.length)) ((bd (l20.set ((w64 (j18 - (1 : Int))).toNat) (p19.getD j18.toNat (0 : Int))) fun (l21 : List Int) => J (w64 (j18 - (1 : Int))) l21))))))))))
def slices_insertionSortCmpFunc_int__impl_BerthAll_1_L4 {R : Type} (n : Nat) (kx2 : List Int → Option R) (J : Int → List Int → Option R) (a8 : Int) (b9 : Int) (cmp10 : List SCall) (i11 : Int) (j12 : Int) (p13 : List Int) : Option R :=
  (bif (decide (j12 > a8)) then ix j12 p13.length (chk (decide (j12.toNat < p13.length)) (ix (w64 (j12 - (1 : Int))) p13.length (chk (decide ((w64 (j12 - (1 : Int))).toNat < p13.length)) ((impl_BerthAll_1 n (p13.getD j12.toNat (0 : Int)) (p13.getD ((w64 (j12 - (1 : Int))).toNat) (0 : Int)) cmp10).bind fun r14 => (bif (decide (r14 < (0 : Int))) then slices_insertionSortCmpFunc_int__impl_BerthAll_1_k0 n kx2 J a8 b9 cmp10 i11 j12 p13 else kx2 p13))))) else kx2 p13)
def slices_insertionSortCmpFunc_int__impl_BerthAll_1_L1 {R : Type} (n : Nat) (kx0 : List Int → Option R) (J : Int → List Int → Option R) (a1 : Int) (b2 : Int) (cmp3 : List SCall) (i4 : Int) (p5 : List Int) : Option R :=
  (bif (decide (i4 < b2)) then loopN (fun (x : Int × List Int) J' => slices_insertionSortCmpFunc_int__impl_BerthAll_1_L4 n (fun p29 => J (w64 (i4 + (1 : Int))) p29) (fun j30 p31 => J' (j30, p31)) a1 b2 cmp3 i4 x.1 x.2) n (i4, p5) else kx0 p5)
def slices_insertionSortCmpFunc_int__impl_BerthAll_1 (n : Nat) (data0 : List Int) (a1 : Int) (b2 : Int) (cmp3c0 : List SCall) : Option (List Int) :=
  loopN (fun (x : Int × List Int) J' => slices_insertionSortCmpFunc_int__impl_BerthAll_1_L1 n (fun p32 => some (p32)) (fun i33 p34 => J' (i33, p34)) a1 b2 cmp3c0 x.1 x.2) n ((w64 (a1 + (1 : Int))), data0)
def slices_swapRangeCmpFunc_int__impl_BerthAll_1_k0 {R : Type} (n : Nat) (kx0 : List Int → Option R) (J : Int → List Int → Option R) (a1 : Int) (b2 : Int) (n3 : Int) (i6 : Int) (p7 : List Int) : Option R :=
  ix (w64 (b2 + i6)) p7.length (chk (decide ((w64 (b2 + i6)).toNat < p7.length)) (ix (w64 (a1 + i6)) p7.length (chk (decide ((w64 (a1 + i6)).toNat < p7.length)) (ix (w64 (a1 + i6)) p7.length (chk (decide ((w64 (a1 + i6)).toNat < p7.length)) ((bd (p7.set ((w64 (a1 + i6)).toNat) (p7.getD ((w64 (b2 + i6)).toNat) (0 : Int))) fun (l8 : List Int) => ix (w64 (b2 + i6)) l8.length (chk (decide ((w64 (b2 + i6)).toNat < l8.length)) ((bd (l8.set ((w64 (b2 + i6)).toNat) (p7.getD ((w64 (a1 + i6)).toNat) (0 : Int))) fun (l9 : List Int) => J (w64 (i6 + (1 : Int))) l9))))))))))
def slices_swapRangeCmpFunc_int__impl_BerthAll_1_L1 {R : Type} (n : Nat) (kx0 : List Int → Option R) (J : Int → List Int → Option R) (a1 : Int) (b2 : Int) (n3 : Int) (i4 : Int) (p5 : List Int) : Option R :=
  (bif (decide (i4 < n3)) then slices_swapRangeCmpFunc_int__impl_BerthAll_1_k0 n kx0 J a1 b2 n3 i4 p5 else kx0 p5)
def slices_swapRangeCmpFunc_int__impl_BerthAll_1 (n : Nat) (data0 : List Int) (a1 : Int) (b2 : Int) (n3 : Int) (cmp4c0 : List SCall) : Option (List Int) :=
  loopN (fun (x : Int × List Int) J' => slices_swapRangeCmpFunc_int__impl_BerthAll_1_L1 n (fun p10 => some (p10)) (fun i11 p12 => J' (i11, p12)) a1 b2 n3 x.1 x.2) n ((0 : Int), data0)
def slices_rotateCmpFunc_int__impl_BerthAll_1_L2 {R : Type} (n : Nat) (kx0 : Int → List Int → Option R) (J : Int → Int → List Int → Option R) (m1 : Int) (cmp2 : List SCall) (i3 : Int) (j4 : Int) (p5 : List Int) : Option R :=
  (bif (!(decide (i3 = j4))) then (bif (decide (i3 > j4)) then (slices_swapRangeCmpFunc_int__impl_BerthAll_1 n p5 (w64 (m1 - i3)) m1 j4 cmp2).bind fun r12 => J (w64 (i3 - j4)) j4 r12 else (bd (w64 ((w64 (m1 + j4)) - i3)) fun (v13 : Int) => (slices_swapRangeCmpFunc_int__impl_BerthAll_1 n p5 (w64 (m1 - i3)) v13 i3 cmp2).bind fun r14 => J i3 (w64 (j4 - i3)) r14)) else kx0 i3 p5)
def slices_rotateCmpFunc_int__impl_BerthAll_1 (n : Nat) (data0 : List Int) (a1 : Int) (m2 : Int) (b3 : Int) (cmp4c0 : List SCall) : Option (List Int) :=
  loopN (fun (x : Int × Int × List Int) J' => slices_rotateCmpFunc_int__impl_BerthAll_1_L2 n (fun i15 p16 => (slices_swapRangeCmpFunc_int__impl_BerthAll_1 n p16 (w64 (m2 - i15)) m2 i15 cmp4c0).bind fun r17 => some (r17)) (fun i18 j19 p20 => J' (i18, j19, p20)) m2 cmp4c0 x.1 x.2.1 x.2.2) n ((w64 (m2 - a1)), (w64 (b3 - m2)), data0)
def slices_symMergeCmpFunc_int__impl_BerthAll_1_k0 {R : Type} (n : Nat) (rc : List Int → Int → Int → Int → List SCall → Option (List Int)) (kx0 : Int → Option R) (J : Int → Int → Option R) (a1 : Int) (cmp2 : List SCall) (i6 : Int) (j7 : Int) (p5 : List Int) : Option R :=
  (bd (Int.fdiv (wu64 (w64 (i6 + j7))) (2 ^ (min (1 : Int).toNat 64))) fun (v8 : Int) => ix (w64 v8) p5.length (chk (decide ((w64 v8).toNat < p5.length)) (ix a1 p5.length (chk (decide (a1.toNat < p5.length)) ((impl_BerthAll_1 n (p5.getD ((w64 v8).toNat) (0 : Int)) (p5.getD a1.toNat (0 : Int)) cmp2).bind fun r9 => (bif (decide (r9 < (0 : Int))) then (bd (w64 ((w64 v8) + (1 : Int))) fun (v10 : Int) => J v10 j7) else J i6 (w64 v8)))))))
def slices_symMergeCmpFunc_int__impl_BerthAll_1_L3 {R : Type} (n : Nat) (rc : List Int → Int → Int → Int → List SCall → Option (List Int)) (kx0 : Int → Option R) (J : Int → Int → Option R) (a1 : Int) (cmp2 : List SCall) (i3 : Int) (j4 : Int) (p5 : List Int) : Option R :=
  (bif (decide (i3 < j4)) then slices_symMergeCmpFunc_int__impl_BerthAll_1_k0 n rc kx0 J a1 cmp2 i3 j4 p5 else kx0 i3)
def slices_symMergeCmpFunc_int__impl_BerthAll_1_k1 {R : Type} (n : Nat) (rc : List Int → Int → Int → Int → List SCall → Option (List Int)) (kx2 : List Int → Option R) (J : Int → List Int → Option R) (i12 : Int) (k15 : Int) (p16 : List Int) : Option R :=
  ix (w64 (k15 + (1 : Int))) p16.length (chk (decide ((w64 (k15 + (1 : Int))).toNat < p16.length)) (ix k15 p16.length (chk (decide (k15.toNat < p16.length)) (ix k15 p16.length (chk (decide (k15.toNat < p16.length)) ((bd (p16.set k15.toNat (p16.getD ((w64 (k15 + (1 : Int))).toNat) (0 : Int))) fun (l17 : List Int) => ix (w64 (k15 + (1 : Int))) l17.length (chk (decide ((w64 (k15 + (1 : Int))).toNat < l17.length)) ((bd (l17.set ((w64 (k15 + (1 : Int))).toNat) (p16.getD k15.toNat (0 : Int))) fun (l18 : List Int) => J (w64 (k15 + (1 : Int))) l18))))))))))
def slices_symMergeCmpFunc_int__impl_BerthAll_1_L9 {R : Type} (n : Nat) (rc : List Int → Int → Int → Int → List SCall → Option (List Int)) (kx2 : List Int → Option R) (J : Int → List Int → Option R) (i12 : Int) (k13 : Int) (p14 : List Int) : Option R :=
  (bif (decide (k13 < (w64 (i12 - (1 : Int))))) then slices_symMergeCmpFunc_int__impl_BerthAll_1_k1 n rc kx2 J i12 k13 p14 else kx2 p14)
def slices_symMergeCmpFunc_int__impl_BerthAll_1_k2 {R : Type} (n : Nat) (rc : List Int → Int → Int → Int → List SCall → Option (List Int)) (kx4 : Int → Option R) (J : Int → Int → Option R) (m25 : Int) (cmp26 : List SCall) (i30 : Int) (j31 : Int) (p29 : List Int) : Option R :=
  (bd (Int.fdiv (wu64 (w64 (i30 + j31))) (2 ^ (min (1 : Int).toNat 64))) fun (v32 : Int) => ix m25 p29.length (chk (decide (m25.toNat < p29.length)) (ix (w64 v32) p29.length (chk (decide ((w64 v32).toNat < p29.length)) ((impl_BerthAll_1 n (p29.getD m25.toNat (0 : Int)) (p29.getD ((w64 v32).toNat) (0 : Int)) cmp26).bind fun r33 => (bif (!(decide (r33 < (0 : Int)))) then (bd (w64 ((w64 v32) + (1 : Int))) fun (v34 : Int) => J v34 j31) else J i30 (w64 v32)))))))
def slices_symMergeCmpFunc_int__impl_BerthAll_1_L15 {R : Type} (n : Nat) (rc : List Int → Int → Int → Int → List SCall → Option (List Int)) (kx4 : Int → Option R) (J : Int → Int → Option R) (m25 : Int) (cmp26 : List SCall) (i27 : Int) (j28 : Int) (p29 : List Int) : Option R :=
  (bif (decide (i27 < j28)) then slices_symMergeCmpFunc_int__impl_BerthAll_1_k2 n rc kx4 J m25 cmp26 i27 j28 p29 else kx4 i27)
def slices_symMergeCmpFunc_int__impl_BerthAll_1_k3 {R : Type} (n : Nat) (rc : List Int → Int → Int → Int → List SCall → Option (List Int)) (kx6 : List Int → Option R) (J : Int → List Int → Option R) (i36 : Int) (k39 : Int) (p40 : List Int) : Option R :=
  ix (w64 (k39 - (1 : Int))) p40.length (chk (decide ((w64 (k39 - (1 : Int))).toNat < p40.length)) (ix k39 p40.length (chk (decide (k39.toNat < p40.length)) (ix k39 p40.length (chk (decide (k39.toNat < p40.length)) ((bd (p40.set k39.toNat (p40.getD ((w64 (k39 - (1 : Int))).toNat) (0 : Int))) fun (l41 : List Int) => ix (w64 (k39 - (1 : Int))) l41.length (chk (decide ((w64 (k39 - (1 : Int))).toNat < l41.length)) ((bd (l41.set ((w64 (k39 - (1 : Int))).toNat) (p40.getD k39.toNat (0 : Int))) fun (l42 : List Int) => J (w64 (k39 - (1 : Int))) l42))))))))))
def slices_symMergeCmpFunc_int__impl_BerthAll_1_L21 {R : Type} (n : Nat) (rc : List Int → Int → Int → Int → List SCall → Option (List Int)) (kx6 : List Int → Option R) (J : Int → List Int → Option R) (i36 : Int) (k37 : Int) (p38 : List Int) : Option R :=
  (bif (decide (k37 > i36)) then slices_symMergeCmpFunc_int__impl_BerthAll_1_k3 n rc kx6 J i36 k37 p38 else kx6 p38)
def slices_symMergeCmpFunc_int__impl_BerthAll_1_k4 {R : Type} (n : Nat) (rc : List Int → Int → Int → Int → List SCall → Option (List Int)) (kx8 : Int → Option R) (J : Int → Int → Option R) (a56 : Int) (m57 : Int) (b58 : Int) (cmp59 : List SCall) (mid60 : Int) (n61 : Int) (start66 : Int) (r67 : Int) (p64 : Int) (p65 : List Int) : Option R :=
  (bd (Int.fdiv (wu64 (w64 (start66 + r67))) (2 ^ (min (1 : Int).toNat 64))) fun (v68 : Int) => ix (w64 (p64 - (w64 v68))) p65.length (chk (decide ((w64 (p64 - (w64 v68))).toNat < p65.length)) (ix (w64 v68) p65.length (chk (decide ((w64 v68).toNat < p65.length)) ((impl_BerthAll_1 n (p65.getD ((w64 (p64 - (w64 v68))).toNat) (0 : Int)) (p65.getD ((w64 v68).toNat) (0 : Int)) cmp59).bind fun r69 => (bif (!(decide (r69 < (0 : Int)))) then (bd (w64 ((w64 v68) + (1 : Int))) fun (v70 : Int) => J v70 r67) else J start66 (w64 v68)))))))
def slices_symMergeCmpFunc_int__impl_BerthAll_1_L33 {R : Type} (n : Nat) (rc : List Int → Int → Int → Int → List SCall → Option (List Int)) (kx8 : Int → Option R) (J : Int → Int → Option R) (a56 : Int) (m57 : Int) (b58 : Int) (cmp59 : List SCall) (mid60 : Int) (n61 : Int) (start62 : Int) (r63 : Int) (p64 : Int) (p65 : List Int) : Option R :=
  (bif (decide (start62 < r63)) then slices_symMergeCmpFunc_int__impl_BerthAll_1_k4 n rc kx8 J a56 m57 b58 cmp59 mid60 n61 start62 r63 p64 p65 else kx8 start62)
def slices_symMergeCmpFunc_int__impl_BerthAll_1_k5 (n : Nat) (rc : List Int → Int → Int → Int → List SCall → Option (List Int))  (a1 : Int) (b3 : Int) (cmp83 : List SCall) (mid84 : Int) (start85 : Int) (end86 : Int) (t87 : Bool) (p88 : List Int) : Option (List Int) :=
  (bif t87 then (rc p88 a1 start85 mid84 cmp83).bind fun r89 => (bif (decide (mid84 < end86)) then (bif (decide (end86 < b3)) then (rc r89 mid84 end86 b3 cmp83).bind fun r110 => some (r110) else some (r89)) else some (r89)) else (bif (decide (mid84 < end86)) then (bif (decide (end86 < b3)) then (rc p88 mid84 end86 b3 cmp83).bind fun r135 => some (r135) else some (p88)) else some (p88)))
def slices_symMergeCmpFunc_int__impl_BerthAll_1_k6 (n : Nat) (rc : List Int → Int → Int → Int → List SCall → Option (List Int))  (a1 : Int) (b3 : Int) (cmp78 : List SCall) (mid79 : Int) (start80 : Int) (end81 : Int) (p82 : List Int) : Option (List Int) :=
  (bif (decide (a1 < start80)) then slices_symMergeCmpFunc_int__impl_BerthAll_1_k5 n rc  a1 b3 cmp78 mid79 start80 end81 (decide (start80 < mid79)) p82 else (bif (decide (mid79 < end81)) then (bif (decide (end81 < b3)) then (rc p82 mid79 end81 b3 cmp78).bind fun r168 => some (r168) else some (p82)) else some (p82)))
def slices_symMergeCmpFunc_int__impl_BerthAll_1_k7 (n : Nat) (rc : List Int → Int → Int → Int → List SCall → Option (List Int))  (a1 : Int) (b3 : Int) (cmp177 : List SCall) (mid178 : Int) (start179 : Int) (end180 : Int) (t181 : Bool) (data0 : List Int) : Option (List Int) :=
  (bif t181 then (rc data0 a1 start179 mid178 cmp177).bind fun r182 => (bif (decide (mid178 < end180)) then (bif (decide (end180 < b3)) then (rc r182 mid178 end180 b3 cmp177).bind fun r192 => some (r192) else some (r182)) else some (r182)) else (bif (decide (mid178 < end180)) then (bif (decide (end180 < b3)) then (rc data0 mid178 end180 b3 cmp177).bind fun r213 => some (r213) else some (data0)) else some (data0)))
def slices_symMergeCmpFunc_int__impl_BerthAll_1_k8 (n : Nat) (rc : List Int → Int → Int → Int → List SCall → Option (List Int))  (a1 : Int) (b3 : Int) (cmp173 : List SCall) (mid174 : Int) (start175 : Int) (end176 : Int) (data0 : List Int) : Option (List Int) :=
  (bif (decide (a1 < start175)) then slices_symMergeCmpFunc_int__impl_BerthAll_1_k7 n rc  a1 b3 cmp173 mid174 start175 end176 (decide (start175 < mid174)) data0 else (bif (decide (mid174 < end176)) then (bif (decide (end176 < b3)) then (rc data0 mid174 end176 b3 cmp173).bind fun r239 => some (r239) else some (data0)) else some (data0)))
def slices_symMergeCmpFunc_int__impl_BerthAll_1_k9 (n : Nat) (rc : List Int → Int → Int → Int → List SCall → Option (List Int))  (a1 : Int) (m2 : Int) (b3 : Int) (cmp51 : List SCall) (mid52 : Int) (n53 : Int) (start54 : Int) (r55 : Int) (data0 : List Int) : Option (List Int) :=
  loopN (fun (x : Int × Int) J' => slices_symMergeCmpFunc_int__impl_BerthAll_1_L33 n rc (fun start71 => (bif (decide (start71 < m2)) then (bif (decide (m2 < (w64 (n53 - start71)))) then (slices_rotateCmpFunc_int__impl_BerthAll_1 n data0 start71 m2 (w64 (n53 - start71)) cmp51).bind fun r243 => slices_symMergeCmpFunc_int__impl_BerthAll_1_k6 n rc  a1 b3 cmp51 mid52 start71 (w64 (n53 - start71)) r243 else slices_symMergeCmpFunc_int__impl_BerthAll_1_k8 n rc  a1 b3 cmp51 mid52 start71 (w64 (n53 - start71)) data0) else slices_symMergeCmpFunc_int__impl_BerthAll_1_k8 n rc  a1 b3 cmp51 mid52 start71 (w64 (n53 - start71)) data0)) (fun start265 r266 => J' (start265, r266)) a1 m2 b3 cmp51 mid52 n53 x.1 x.2 (w64 (n53 - (1 : Int))) data0) n (start54, r55)
def slices_symMergeCmpFunc_int__impl_BerthAll_1_k10 (n : Nat) (rc : List Int → Int → Int → Int → List SCall → Option (List Int))  (a1 : Int) (m2 : Int) (b3 : Int) (cmp267 : List SCall) (mid268 : Int) (n269 : Int) (data0 : List Int) : Option (List Int) :=
  loopN (fun (x : Int × Int) J' => slices_symMergeCmpFunc_int__impl_BerthAll_1_L33 n rc (fun start270 => (bif (decide (start270 < m2)) then (bif (decide (m2 < (w64 (n269 - start270)))) then (slices_rotateCmpFunc_int__impl_BerthAll_1 n data0 start270 m2 (w64 (n269 - start270)) cmp267).bind fun r276 => slices_symMergeCmpFunc_int__impl_BerthAll_1_k6 n rc  a1 b3 cmp267 mid268 start270 (w64 (n269 - start270)) r276 else slices_symMergeCmpFunc_int__impl_BerthAll_1_k8 n rc  a1 b3 cmp267 mid268 start270 (w64 (n269 - start270)) data0) else slices_symMergeCmpFunc_int__impl_BerthAll_1_k8 n rc  a1 b3 cmp267 mid268 start270 (w64 (n269 - start270)) data0)) (fun start294 r295 => J' (start294, r295)) a1 m2 b3 cmp267 mid268 n269 x.1 x.2 (w64 (n269 - (1 : Int))) data0) n (a1, m2)
def slices_symMergeCmpFunc_int__impl_BerthAll_1_k11 (n : Nat) (rc : List Int → Int → Int → Int → List SCall → Option (List Int))  (a1 : Int) (m2 : Int) (b3 : Int) (cmp48 : List SCall) (data0 : List Int) : Option (List Int) :=
  (bd (Int.fdiv (wu64 (w64 (a1 + b3))) (2 ^ (min (1 : Int).toNat 64))) fun (v49 : Int) => (bif (decide (m2 > (w64 v49))) then (bd (w64 ((w64 ((w64 v49) + m2)) - b3)) fun (v50 : Int) => slices_symMergeCmpFunc_int__impl_BerthAll_1_k9 n rc  a1 m2 b3 cmp48 (w64 v49) (w64 ((w64 v49) + m2)) v50 (w64 v49) data0) else slices_symMergeCmpFunc_int__impl_BerthAll_1_k10 n rc  a1 m2 b3 cmp48 (w64 v49) (w64 ((w64 v49) + m2)) data0))
def slices_symMergeCmpFunc_int__impl_BerthAll_1_k12 (n : Nat) (rc : List Int → Int → Int → Int → List SCall → Option (List Int))  (a1 : Int) (m2 : Int) (b3 : Int) (cmp24 : List SCall) (data0 : List Int) : Option (List Int) :=
  (bif (decide ((w64 (b3 - m2)) = (1 : Int))) then loopN (fun (x : Int × Int) J' => slices_symMergeCmpFunc_int__impl_BerthAll_1_L15 n rc (fun i35 => loopN (fun (x : Int × List Int) J' => slices_symMergeCmpFunc_int__impl_BerthAll_1_L21 n rc (fun p43 => some (p43)) (fun k44 p45 => J' (k44, p45)) i35 x.1 x.2) n (m2, data0)) (fun i46 j47 => J' (i46, j47)) m2 cmp24 x.1 x.2 data0) n (a1, m2) else slices_symMergeCmpFunc_int__impl_BerthAll_1_k11 n rc  a1 m2 b3 cmp24 data0)
def slices_symMergeCmpFunc_int__impl_BerthAll_1_b (n : Nat) (rc : List Int → Int → Int → Int → List SCall → Option (List Int)) (data0 : List Int) (a1 : Int) (m2 : Int) (b3 : Int) (cmp4c0 : List SCall) : Option (List Int) :=
  (bif (decide ((w64 (m2 - a1)) = (1 : Int))) then loopN (fun (x : Int × Int) J' => slices_symMergeCmpFunc_int__impl_BerthAll_1_L3 n rc (fun i11 => loopN (fun (x : Int × List Int) J' => slices_symMergeCmpFunc_int__impl_BerthAll_1_L9 n rc (fun p19 => some (p19)) (fun k20 p21 => J' (k20, p21)) i11 x.1 x.2) n (a1, data0)) (fun i22 j23 => J' (i22, j23)) a1 cmp4c0 x.1 x.2 data0) n (m2, b3) else slices_symMergeCmpFunc_int__impl_BerthAll_1_k12 n rc  a1 m2 b3 cmp4c0 data0)
def slices_symMergeCmpFunc_int__impl_BerthAll_1_r (n : Nat) : Nat → List Int → Int → Int → Int → List SCall → Option (List Int)
  | 0 => fun _ _ _ _ _ => none
  | m + 1 => fun data0 a1 m2 b3 cmp4c0 => slices_symMergeCmpFunc_int__impl_BerthAll_1_b n (slices_symMergeCmpFunc_int__impl_BerthAll_1_r n m) data0 a1 m2 b3 cmp4c0
def slices_symMergeCmpFunc_int__impl_BerthAll_1 (n : Nat) (data0 : List Int) (a1 : Int) (m2 : Int) (b3 : Int) (cmp4c0 : List SCall) : Option (List Int) := slices_symMergeCmpFunc_int__impl_BerthAll_1_r n n data0 a1 m2 b3 cmp4c0
def slices_stableCmpFunc_int__impl_BerthAll_1_L2 {R : Type} (n : Nat) (kx0 : Int → List Int → Option R) (J : Int → Int → List Int → Option R) (n1 : Int) (cmp2 : List SCall) (blockSize3 : Int) (a4 : Int) (b5 : Int) (p6 : List Int) : Option R :=
  (bif (decide (b5 ≤ n1)) then (slices_insertionSortCmpFunc_int__impl_BerthAll_1 n p6 a4 b5 cmp2).bind fun r11 => J b5 (w64 (b5 + blockSize3)) r11 else kx0 a4 p6)
def slices_stableCmpFunc_int__impl_BerthAll_1_L9 {R : Type} (n : Nat) (kx4 : Int → List Int → Option R) (J : Int → Int → List Int → Option R) (n22 : Int) (cmp23 : List SCall) (blockSize24 : Int) (a25 : Int) (b26 : Int) (p27 : List Int) : Option R :=
  (bif (decide (b26 ≤ n22)) then (bd (w64 (a25 + blockSize24)) fun (v34 : Int) => (slices_symMergeCmpFunc_int__impl_BerthAll_1 n p27 a25 v34 b26 cmp23).bind fun r35 => (bd (w64 ((2 : Int) * blockSize24)) fun (v36 : Int) => J b26 (w64 (b26 + v36)) r35)) else kx4 a25 p27)
def slices_stableCmpFunc_int__impl_BerthAll_1_k0 {R : Type} (n : Nat) (kx2 : List Int → Option R) (J : Int → List Int → Option R) (n15 : Int) (cmp16 : List SCall) (blockSize19 : Int) (p20 : List Int) : Option R :=
  (bd (w64 ((2 : Int) * blockSize19)) fun (v21 : Int) => loopN (fun (x : Int × Int × List Int) J' => slices_stableCmpFunc_int__impl_BerthAll_1_L9 n (fun a37 p38 => (bd (w64 (a37 + blockSize19)) fun (v39 : Int) => (bif (decide (v39 < n15)) then (slices_symMergeCmpFunc_int__impl_BerthAll_1 n p38 a37 v39 n15 cmp16).bind fun r40 => (bd (w64 (blockSize19 * (2 : Int))) fun (v44 : Int) => J v44 r40) else (bd (w64 (blockSize19 * (2 : Int))) fun (v48 : Int) => J v48 p38)))) (fun a49 b50 p51 => J' (a49, b50, p51)) n15 cmp16 blockSize19 x.1 x.2.1 x.2.2) n ((0 : Int), v21, p20))
def slices_stableCmpFunc_int__impl_BerthAll_1_L7 {R : Type} (n : Nat) (kx2 : List Int → Option R) (J : Int → List Int → Option R) (n15 : Int) (cmp16 : List SCall) (blockSize17 : Int) (p18 : List Int) : Option R :=
  (bif (decide (blockSize17 < n15)) then slices_stableCmpFunc_int__impl_BerthAll_1_k0 n kx2 J n15 cmp16 blockSize17 p18 else kx2 p18)
def slices_stableCmpFunc_int__impl_BerthAll_1 (n : Nat) (data0 : List Int) (n1 : Int) (cmp2c0 : List SCall) : Option (List Int) :=
  loopN (fun (x : Int × Int × List Int) J' => slices_stableCmpFunc_int__impl_BerthAll_1_L2 n (fun a12 p13 => (slices_insertionSortCmpFunc_int__impl_BerthAll_1 n p13 a12 n1 cmp2c0).bind fun r14 => loopN (fun (x : Int × List Int) J' => slices_stableCmpFunc_int__impl_BerthAll_1_L7 n (fun p52 => some (p52)) (fun blockSize53 p54 => J' (blockSize53, p54)) n1 cmp2c0 x.1 x.2) n ((20 : Int), r14)) (fun a55 b56 p57 => J' (a55, b56, p57)) n1 cmp2c0 (20 : Int) x.1 x.2.1 x.2.2) n ((0 : Int), (20 : Int), data0)
def slices_SortStableFunc_int_int__impl_BerthAll_1 (n : Nat) (x0 : List Int) (cmp1c0 : List SCall) : Option (List Int) :=
  (slices_stableCmpFunc_int__impl_BerthAll_1 n x0 (x0.length : Int) cmp1c0).bind fun r1 => some (r1)
def impl_Berth_1 (n : Nat) (c0 : SCall) (a1 : Int) : Option Bool :=
  some ((decide (c0.Id = a1)))
def slices_IndexFunc_impl_Call_impl_Call__impl_Berth_1_L2 {R : Type} (n : Nat) (kx0 : Option R) (kxr : Int → Option R) (J : Int → Option R) (s1 : List SCall) (f2 : Int) (t3 : Int) (t4 : Int) : Option R :=
  (bif (decide (t4 < t3)) then ix t4 s1.length ((bd (s1.getD t4.toNat dSCall) fun (e9 : SCall) => (impl_Berth_1 n e9 f2).bind fun r10 => (bif r10 then kxr t4 else J (w64 (t4 + (1 : Int)))))) else kx0)
def slices_IndexFunc_impl_Call_impl_Call__impl_Berth_1 (n : Nat) (s0 : List SCall) (f1c0 : Int) : Option Int :=
  loopN (fun (x : Int) J' => slices_IndexFunc_impl_Call_impl_Call__impl_Berth_1_L2 n (some ((-1 : Int))) (fun t12 => some (t12)) J' s0 f1c0 (s0.length : Int) x) n ((0 : Int))
def impl_Berth_2 (n : Nat) (x0 : SCall) (a1 : Int) (a2 : SCall) : Option Bool :=
  (bif (!(decide (x0.Id = a1))) then (impl_shares n x0 a2).bind fun r1 => some (r1) else some (false))
def slices_IndexFunc_impl_Call_impl_Call__impl_Berth_2_L2 {R : Type} (n : Nat) (kx0 : Option R) (kxr : Int → Option R) (J : Int → Option R) (s1 : List SCall) (f2 : Int) (f3 : SCall) (t4 : Int) (t5 : Int) : Option R :=
  (bif (decide (t5 < t4)) then ix t5 s1.length ((bd (s1.getD t5.toNat dSCall) fun (e10 : SCall) => (impl_Berth_2 n e10 f2 f3).bind fun r11 => (bif r11 then kxr t5 else J (w64 (t5 + (1 : Int)))))) else kx0)
def slices_IndexFunc_impl_Call_impl_Call__impl_Berth_2 (n : Nat) (s0 : List SCall) (f1c0 : Int) (f1c1 : SCall) : Option Int :=
  loopN (fun (x : Int) J' => slices_IndexFunc_impl_Call_impl_Call__impl_Berth_2_L2 n (some ((-1 : Int))) (fun t13 => some (t13)) J' s0 f1c0 f1c1 (s0.length : Int) x) n ((0 : Int))
def slices_ContainsFunc_impl_Call_impl_Call__impl_Berth_2 (n : Nat) (s0 : List SCall) (f1c0 : Int) (f1c1 : SCall) : Option Bool :=
  (slices_IndexFunc_impl_Call_impl_Call__impl_Berth_2 n s0 f1c0 f1c1).bind fun r1 => some ((decide (r1 ≥ (0 : Int))))
def impl_Berth_L6 {R : Type} (n : Nat) (kx0 : Option R) (kxr : Int → Bool → Option R) (J : SCall → Option R) (long8 : Int) (calls9 : List SCall) (id10 : Int) (c11 : SCall) : Option R :=
  (bd (w64 (c11.At + c11.Long)) fun (v12 : Int) => (bif (decide (v12 ≤ long8)) then (slices_ContainsFunc_impl_Call_impl_Call__impl_Berth_2 n calls9 id10 c11).bind fun r18 => (bif (!r18) then kxr c11.At true else (bd (w64 (c11.At + (1 : Int))) fun (v20 : Int) => J (⟨c11.Id, c11.Long, c11.From, c11.To, v20⟩ : SCall))) else kx0))
def impl_Berth_k0 (n : Nat)  (long0 : Int) (calls1 : List SCall) (i4 : Int) (t5 : Bool) (id2 : Int) : Option (Int × Bool) :=
  (bif t5 then some ((-1 : Int), false) else ix i4 calls1.length ((bd (calls1.getD i4.toNat dSCall) fun (e24 : SCall) => loopN (fun (x : SCall) J' => impl_Berth_L6 n (some ((-1 : Int), false)) (fun t25 t26 => some (t25, t26)) J' long0 calls1 id2 x) n ((⟨e24.Id, e24.Long, e24.From, e24.To, (0 : Int)⟩ : SCall)))))
def impl_Berth (n : Nat) (long0 : Int) (calls1 : List SCall) (id2 : Int) : Option (Int × Bool) :=
  (slices_IndexFunc_impl_Call_impl_Call__impl_Berth_1 n calls1 id2).bind fun r1 => (impl_Clear17 n long0 calls1).bind fun r2 => (bif (!r2) then some ((-1 : Int), false) else impl_Berth_k0 n  long0 calls1 r1 (decide (r1 < (0 : Int))) id2)
def impl_BerthAll_k0 {R : Type} (n : Nat) (kx0 : List Int → Option R) (J : Int → List Int → Option R) (long3 : Int) (t4 : Int) (t8 : Int) (c6 : List SCall) (order9 : List Int) : Option R :=
  ix t8 c6.length (chk (decide (t8.toNat < c6.length)) ((bd (c6.getD t8.toNat dSCall) fun (e10 : SCall) => (bif (decide (e10.At < (0 : Int))) then chk (decide ((order9 ++ [t8]).length * 8 ≤ 140737488355328)) (J (w64 (t8 + (1 : Int))) (order9 ++ [t8])) else J (w64 (t8 + (1 : Int))) order9))))
def impl_BerthAll_L6 {R : Type} (n : Nat) (kx0 : List Int → Option R) (J : Int → List Int → Option R) (long3 : Int) (t4 : Int) (t5 : Int) (c6 : List SCall) (order7 : List Int) : Option R :=
  (bif (decide (t5 < t4)) then impl_BerthAll_k0 n kx0 J long3 t4 t5 c6 order7 else kx0 order7)
def impl_BerthAll_k1 {R : Type} (n : Nat) (kx2 : List SCall → Option R) (J : Int → List SCall → Option R) (long17 : Int) (t18 : Int) (t22 : Int) (c23 : List SCall) (t21 : List Int) : Option R :=
  ix t22 t21.length (chk (decide (t22.toNat < t21.length)) (ix (t21.getD t22.toNat (0 : Int)) c23.length (chk (decide ((t21.getD t22.toNat (0 : Int)).toNat < c23.length)) ((impl_Berth n long17 c23 ((c23.getD ((t21.getD t22.toNat (0 : Int)).toNat) dSCall).Id)).bind fun r24 => (bif r24.2 then ix (t21.getD t22.toNat (0 : Int)) c23.length (chk (decide ((t21.getD t22.toNat (0 : Int)).toNat < c23.length)) ((bd (c23.getD ((t21.getD t22.toNat (0 : Int)).toNat) dSCall) fun (e25 : SCall) => (bd (c23.set ((t21.getD t22.toNat (0 : Int)).toNat) (⟨e25.Id, e25.Long, e25.From, e25.To, r24.1⟩ : SCall)) fun (l26 : List SCall) => J (w64 (t22 + (1 : Int))) l26)))) else J (w64 (t22 + (1 : Int))) c23)))))
def impl_BerthAll_L13 {R : Type} (n : Nat) (kx2 : List SCall → Option R) (J : Int → List SCall → Option R) (long17 : Int) (t18 : Int) (t19 : Int) (c20 : List SCall) (t21 : List Int) : Option R :=
  (bif (decide (t19 < t18)) then impl_BerthAll_k1 n kx2 J long17 t18 t19 c20 t21 else kx2 c20)
def impl_BerthAll_k2 (n : Nat)  (long0 : Int) (calls1 : List SCall) : Option (List SCall × Bool) :=
  (impl_own_impl_Call n calls1).bind fun r2 => loopN (fun (x : Int × List Int) J' => impl_BerthAll_L6 n (fun order15 => (slices_SortStableFunc_int_int__impl_BerthAll_1 n order15 r2).bind fun r16 => loopN (fun (x : Int × List SCall) J' => impl_BerthAll_L13 n (fun c31 => some (c31, true)) (fun t32 c33 => J' (t32, c33)) long0 (r16.length : Int) x.1 x.2 r16) n ((0 : Int), r2)) (fun t34 order35 => J' (t34, order35)) long0 (r2.length : Int) x.1 r2 x.2) n ((0 : Int), [])
def impl_BerthAll (n : Nat) (long0 : Int) (calls1 : List SCall) : Option (List SCall × Bool) :=
  (impl_Clear17 n long0 calls1).bind fun r1 => (bif (!r1) then some ([], false) else impl_BerthAll_k2 n  long0 calls1)
def impl_Bound17_k0 {R : Type} (n : Nat) (kx2 : Int → Option R) (J : Int → Int → Option R) (calls10 : List SCall) (most11 : Int) (s20 : Int) (t13 : List SCall) (t14 : Int) (t15 : Int) (t16 : List SCall) (t17 : Int) (t21 : Int) (c19 : SCall) : Option R :=
  ix t21 t16.length ((bd (t16.getD t21.toNat dSCall) fun (e22 : SCall) => (bd (w64 (e22.To - (1 : Int))) fun (v23 : Int) => (impl_in n c19.From e22.From v23).bind fun r24 => (bif r24 then J (w64 (s20 + e22.Long)) (w64 (t21 + (1 : Int))) else J s20 (w64 (t21 + (1 : Int)))))))
def impl_Bound17_L9 {R : Type} (n : Nat) (kx2 : Int → Option R) (J : Int → Int → Option R) (calls10 : List SCall) (most11 : Int) (s12 : Int) (t13 : List SCall) (t14 : Int) (t15 : Int) (t16 : List SCall) (t17 : Int) (t18 : Int) (c19 : SCall) : Option R :=
  (bif (decide (t18 < t17)) then impl_Bound17_k0 n kx2 J calls10 most11 s12 t13 t14 t15 t16 t17 t18 c19 else kx2 s12)
def impl_Bound17_k1 {R : Type} (n : Nat) (kx0 : Int → Option R) (J : Int → Int → Option R) (calls2 : List SCall) (most7 : Int) (t4 : List SCall) (t5 : Int) (t8 : Int) : Option R :=
  ix t8 t4.length ((bd (t4.getD t8.toNat dSCall) fun (e9 : SCall) => loopN (fun (x : Int × Int) J' => impl_Bound17_L9 n (fun s29 => J (if s29 > most7 then s29 else most7) (w64 (t8 + (1 : Int)))) (fun s30 t31 => J' (s30, t31)) calls2 most7 x.1 t4 t5 t8 calls2 (calls2.length : Int) x.2 e9) n ((0 : Int), (0 : Int))))
def impl_Bound17_L5 {R : Type} (n : Nat) (kx0 : Int → Option R) (J : Int → Int → Option R) (calls2 : List SCall) (most3 : Int) (t4 : List SCall) (t5 : Int) (t6 : Int) : Option R :=
  (bif (decide (t6 < t5)) then impl_Bound17_k1 n kx0 J calls2 most3 t4 t5 t6 else kx0 most3)
def impl_Bound17 (n : Nat) (long0 : Int) (calls1 : List SCall) : Option (Int × Bool) :=
  (impl_CallsOk n long0 calls1).bind fun r1 => (bif (!r1) then some ((0 : Int), false) else loopN (fun (x : Int × Int) J' => impl_Bound17_L5 n (fun most35 => some (most35, true)) (fun most36 t37 => J' (most36, t37)) calls1 x.1 calls1 (calls1.length : Int) x.2) n ((0 : Int), (0 : Int)))
def laws_FnBerths_k0 {R : Type} (n : Nat) (kx0 : Option R) (kxr : Bool → Option R) (J : Int → Option R) (long22 : Int) (i33 : Int) (calls24 : List SCall) (out25 : List SCall) : Option R :=
  ix i33 out25.length (chk (decide (i33.toNat < out25.length)) ((impl_Berth n long22 out25 ((out25.getD i33.toNat dSCall).Id)).bind fun r34 => ix i33 out25.length (chk (decide (i33.toNat < out25.length)) ((bif (!(r34.2 == (decide ((out25.getD i33.toNat dSCall).At ≥ (0 : Int))))) then kxr false else (bif r34.2 then ix i33 out25.length (chk (decide (i33.toNat < out25.length)) ((bif (decide (r34.1 > (out25.getD i33.toNat dSCall).At)) then kxr false else J (w64 (i33 + (1 : Int)))))) else J (w64 (i33 + (1 : Int)))))))))
def laws_FnBerths_k1 {R : Type} (n : Nat) (kx0 : Option R) (kxr : Bool → Option R) (J : Int → Option R) (long22 : Int) (i26 : Int) (calls24 : List SCall) (out25 : List SCall) : Option R :=
  ix i26 calls24.length (chk (decide (i26.toNat < calls24.length)) ((bif (decide ((calls24.getD i26.toNat dSCall).At ≥ (0 : Int))) then ix i26 out25.length (chk (decide (i26.toNat < out25.length)) ((bd (out25.getD i26.toNat dSCall) fun (e27 : SCall) => ix i26 calls24.length (chk (decide (i26.toNat < calls24.length)) ((bd (calls24.getD i26.toNat dSCall) fun (e28 : SCall) => (bif (!((decide (e27.Id = e28.Id)) && ((decide (e27.Long = e28.Long)) && ((decide (e27.From = e28.From)) && ((decide (e27.To = e28.To)) && (decide (e27.At = e28.At))))))) then kxr false else ix i26 out25.length (chk (decide (i26.toNat < out25.length)) (ix i26 calls24.length (chk (decide (i26.toNat < calls24.length)) ((bif (!(decide ((out25.getD i26.toNat dSCall).Id = (calls24.getD i26.toNat dSCall).Id))) then kxr false else ix i26 out25.length (chk (decide (i26.toNat < out25.length)) (ix i26 calls24.length (chk (decide (i26.toNat < calls24.length)) ((bif (!(decide ((out25.getD i26.toNat dSCall).Long = (calls24.getD i26.toNat dSCall).Long))) then kxr false else laws_FnBerths_k0 n kx0 kxr J long22 i26 calls24 out25))))))))))))))))) else ix i26 out25.length (chk (decide (i26.toNat < out25.length)) (ix i26 calls24.length (chk (decide (i26.toNat < calls24.length)) ((bif (!(decide ((out25.getD i26.toNat dSCall).Id = (calls24.getD i26.toNat dSCall).Id))) then kxr false else ix i26 out25.length (chk (decide (i26.toNat < out25.length)) (ix i26 calls24.length (chk (decide (i26.toNat < calls24.length)) ((bif (!(decide ((out25.getD i26.toNat dSCall).Long = (calls24.getD i26.toNat dSCall).Long))) then kxr false else laws_FnBerths_k0 n kx0 kxr J long22 i26 calls24 out25)))))))))))))
def laws_FnBerths_L8 {R : Type} (n : Nat) (kx0 : Option R) (kxr : Bool → Option R) (J : Int → Option R) (long22 : Int) (i23 : Int) (calls24 : List SCall) (out25 : List SCall) : Option R :=
  (bif (decide (i23 < (out25.length : Int))) then laws_FnBerths_k1 n kx0 kxr J long22 i23 calls24 out25 else kx0)
def laws_FnBerths_L17 {R : Type} (n : Nat) (kx2 : Option R) (kxr : Bool → Option R) (J : Int → Option R) (most49 : Int) (fine50 : Bool) (i51 : Int) (calls52 : List SCall) : Option R :=
  (bif (decide (i51 < (calls52.length : Int))) then ix i51 calls52.length (chk (decide (i51.toNat < calls52.length)) ((bif (decide (most49 < (calls52.getD i51.toNat dSCall).Long)) then kxr false else J (w64 (i51 + (1 : Int)))))) else kx2)
def laws_FnBerths_k2 (n : Nat)  (long19 : Int) (t20 : List SCall) (t21 : List SCall) : Option Bool :=
  loopN (fun (x : Int) J' => laws_FnBerths_L8 n ((impl_Bound17 n long19 t20).bind fun r48 => loopN (fun (x : Int) J' => laws_FnBerths_L17 n ((impl_Berth n (9 : Int) [(⟨(1 : Int), (4 : Int), (0 : Int), (5 : Int), (0 : Int)⟩ : SCall), (⟨(2 : Int), (5 : Int), (0 : Int), (5 : Int), (-1 : Int)⟩ : SCall)] (2 : Int)).bind fun r56 => (bif r48.2 then (bif r56.2 then some ((decide (r56.1 = (4 : Int)))) else some (false)) else some (false))) (fun t58 => some (t58)) J' r48.1 r48.2 x t20) n ((0 : Int))) (fun t60 => some (t60)) J' long19 x t20 t21) n ((0 : Int))
def laws_FnBerths_k3 (n : Nat)  (code0 : List Int) : Option Bool :=
  (spec_DrawQuay n code0).bind fun r2 => (impl_BerthAll n r2.1 r2.2).bind fun r3 => (bif (!r3.2) then some (false) else (bif (!(decide ((r3.1.length : Int) = (r2.2.length : Int)))) then some (false) else (impl_CallsOk n r2.1 r3.1).bind fun r10 => (bif (!r10) then some (false) else (impl_Clear17 n r2.1 r3.1).bind fun r14 => (bif (!r14) then some (false) else laws_FnBerths_k2 n  r2.1 r2.2 r3.1))))
def laws_FnBerths (n : Nat) (code0 : List Int) : Option Bool :=
  (laws_big n code0).bind fun r1 => (bif r1 then some (true) else laws_FnBerths_k3 n  code0)
def rng (a b x : Int) : Prop := a ≤ x ∧ x ≤ b
def wfSCall (x : SCall) : Prop := rng (-9223372036854775808) 9223372036854775807 x.Id ∧ rng (-9223372036854775808) 9223372036854775807 x.Long ∧ rng (-9223372036854775808) 9223372036854775807 x.From ∧ rng (-9223372036854775808) 9223372036854775807 x.To ∧ rng (-9223372036854775808) 9223372036854775807 x.At
def wfSl1Cur (x : Sl1Cur) : Prop := (x.b.length ≤ 9223372036854775807 ∧ ∀ y ∈ x.b, rng 0 255 y) ∧ rng (-9223372036854775808) 9223372036854775807 x.i ∧ rng (-9223372036854775808) 9223372036854775807 x.h
end Go.Sm
end

section
set_option linter.unusedSimpArgs false
set_option linter.deprecated false
set_option linter.unusedSectionVars false
set_option linter.unusedVariables false
namespace Go.Sm
/-! ### Of the words that printed functions are made of -/
theorem w64_id {x : Int} (h1 : -9223372036854775808 ≤ x) (h2 : x ≤ 9223372036854775807) : w64 x = x := by
  show (let m := x % (2 ^ 64 : Int); if (true && decide ((2 : Int) ^ 63 ≤ m)) = true then m - 2 ^ 64 else m) = x
  simp only [Bool.true_and, decide_eq_true_eq]
  split <;> omega
theorem w64_rng (x : Int) : -9223372036854775808 ≤ w64 x ∧ w64 x ≤ 9223372036854775807 := by
  show -9223372036854775808 ≤ (let m := x % (2 ^ 64 : Int); if (true && decide ((2 : Int) ^ 63 ≤ m)) = true then m - 2 ^ 64 else m) ∧ (let m := x % (2 ^ 64 : Int); if (true && decide ((2 : Int) ^ 63 ≤ m)) = true then m - 2 ^ 64 else m) ≤ 9223372036854775807
  simp only [Bool.true_and, decide_eq_true_eq]
  split <;> omega
theorem chk_of {R : Type} {b : Bool} {x : Option R} (h : b = true) : chk b x = x := by rw [h]; rfl
theorem chk_true {R : Type} {x : Option R} : chk true x = x := rfl
theorem chk_dec {R : Type} {p : Prop} [Decidable p] {x : Option R} (h : p) : chk (decide p) x = x := chk_of (decide_eq_true h)
theorem ix_of {R : Type} {i : Int} {len : Nat} {x : Option R} (h0 : 0 ≤ i) (h1 : i < (len : Int)) : ix i len x = x := by
  unfold ix
  rw [decide_eq_true h0, decide_eq_true h1]
  rfl
theorem ix_nat {R : Type} {i len : Nat} {x : Option R} (h1 : i < len) : ix (i : Int) len x = x := ix_of (by omega) (by omega)
theorem bif_dec {α : Type} {p : Prop} [Decidable p] {x y : α} : (bif decide p then x else y) = if p then x else y := by
  by_cases h : p <;> simp [h]
theorem bif_not {α : Type} {b : Bool} {x y : α} : (bif !b then x else y) = bif b then y else x := by cases b <;> rfl
theorem bif_and {α : Type} {a b : Bool} {x y : α} : (bif a && b then x else y) = bif a then (bif b then x else y) else y := by cases a <;> rfl
theorem loopN_succ {X R : Type} (b : X → (X → Option R) → Option R) (m : Nat) (x : X) : loopN b (m + 1) x = b x (loopN b m) := rfl
/-- What holds of a loop: by what is left to go. -/
theorem loopN_ind {X R : Type} {b : X → (X → Option R) → Option R} (μ : X → Nat) (I : X → Prop) (Q : X → Option R → Prop)
    (h : ∀ x J, I x → (∀ y, I y → μ y < μ x → Q y (J y)) → Q x (b x J)) : ∀ n x, I x → μ x < n → Q x (loopN b n x)
  | 0, x, hi, hm => absurd hm (Nat.not_lt_zero _)
  | n + 1, x, hi, hm => h x (loopN b n) hi fun y hy hl => loopN_ind μ I Q h n y hy (by omega)
theorem getD_eq {α : Type} {l : List α} {i : Nat} {d : α} (h : i < l.length) : l.getD i d = l[i] := by
  simp [List.getD, h]
theorem w64_succ {k : Nat} (h : k < 9223372036854775807) : w64 ((k : Int) + 1) = ((k + 1 : Nat) : Int) := by
  rw [w64_id (by omega) (by omega)]
  rfl
theorem take_succ_getD {α : Type} {l : List α} {i : Nat} {d : α} (h : i < l.length) : l.take (i + 1) = l.take i ++ [l.getD i d] := by
  rw [List.take_succ, getD_eq h, List.getElem?_eq_getElem h]
  rfl
theorem drop_getD {α : Type} {l : List α} {i : Nat} {d : α} (h : i < l.length) : l.drop i = l.getD i d :: l.drop (i + 1) := by
  rw [getD_eq h]
  exact List.drop_eq_getElem_cons h
theorem bd_eq {α β : Type} (e : α) (f : α → β) : bd e f = f e := rfl
theorem bd_set {α β : Type} {Q : β → Prop} {F : List α → β} {p : List α} {i : Nat} {x : α} (h : ∀ l : List α, l.length = p.length → Q (F l)) : Q (bd (p.set i x) F) := h _ (by simp)
theorem bd_is {α β : Type} {Q : β → Prop} {F : α → β} {e : α} (h : ∀ v : α, v = e → Q (F v)) : Q (bd e F) := h _ rfl
theorem bd_val {α β : Type} {Q : β → Prop} {F : α → β} {e : α} (h : ∀ v : α, Q (F v)) : Q (bd e F) := h _
theorem chk_q {R : Type} {Q : Option R → Prop} {b : Bool} {x : Option R} (h : b = true) (hx : Q x) : Q (chk b x) := by rw [chk_of h]; exact hx
theorem ix_q {R : Type} {Q : Option R → Prop} {i : Int} {len : Nat} {x : Option R} (h0 : 0 ≤ i) (h1 : i < (len : Int)) (hx : Q x) : Q (ix i len x) := by rw [ix_of h0 h1]; exact hx
theorem bd_upd {α β : Type} {Q : β → Prop} {F : List α → β} {p : List α} {i : Nat} {x d : α} (hi : i < p.length) (h : ∀ l : List α, l.length = p.length → l.getD i d = x → (∀ j, j ≠ i → l.getD j d = p.getD j d) → Q (F l)) : Q (bd (p.set i x) F) :=
  h _ (by simp) (by simp [List.getD, hi]) (fun j hj => by simp [List.getD, List.getElem?_set, Ne.symm hj])
/-- A list written from the front. -/
theorem set_take {α : Type} {a : List α} {d : α} {m k : Nat} (h : k < a.length) (hm : m = a.length := by rfl) : (a.take k ++ (List.replicate m d).drop k).set k (a.getD k d) = a.take (k + 1) ++ (List.replicate m d).drop (k + 1) := by
  subst hm
  have h1 : (a.take k).length = k := by simp; omega
  rw [List.set_append_right _ _ (by omega), h1, Nat.sub_self, take_succ_getD h, List.append_assoc]
  congr 1
  rw [List.drop_eq_getElem_cons (by simp; exact h)]
  rfl
/-! ### Loops over 0 .. len, by what is left -/
/-- Steps k, k+1, .. told one after the other; J: what comes behind a step. -/
def forK {S R : Type} (step : Nat → S → (S → Option R) → Option R) (fin : S → Option R) : Nat → Nat → S → Option R
  | 0, _, s => fin s
  | m + 1, k, s => step k s fun s' => forK step fin m (k + 1) s'
theorem loop_forK {X S R : Type} {b : X → (X → Option R) → Option R} {enc : Nat → S → X} {len : Nat} {step : Nat → S → (S → Option R) → Option R} {fin : S → Option R} (I : Nat → S → Prop)
    (hstep : ∀ k s J J', k < len → I k s → (∀ s', I (k + 1) s' → J (enc (k + 1) s') = J' s') → b (enc k s) J = step k s J') (hfin : ∀ s J, I len s → b (enc len s) J = fin s) :
    ∀ m k s n, k + m = len → m < n → I k s → loopN b n (enc k s) = forK step fin m k s
  | 0, k, s, 0, _, h, _ => absurd h (Nat.lt_irrefl _)
  | 0, k, s, n + 1, hk, _, hi => by
    have hk : k = len := by omega
    subst hk
    exact hfin s _ hi
  | m + 1, k, s, 0, _, h, _ => absurd h (Nat.not_lt_zero _)
  | m + 1, k, s, n + 1, hk, hn, hi => by
    show b (enc k s) (loopN b n) = step k s fun s' => forK step fin m (k + 1) s'
    exact hstep k s _ _ (by omega) hi fun s' hi' => loop_forK I hstep hfin m (k + 1) s' n (by omega) (by omega) hi'
/-- The first k at which f answers; at none: z. -/
def scanK {R : Type} (f : Nat → Option (Option R)) (z : Option R) : Nat → Nat → Option R
  | 0, _ => z
  | m + 1, k => match f k with
    | some r => r
    | none => scanK f z m (k + 1)
theorem loop_scan {X R : Type} {b : X → (X → Option R) → Option R} {enc : Nat → X} {len : Nat} {f : Nat → Option (Option R)} {z : Option R}
    (hstep : ∀ k J, k < len → b (enc k) J = match f k with | some r => r | none => J (enc (k + 1))) (hfin : ∀ J, b (enc len) J = z) :
    ∀ m k n, k + m = len → m < n → loopN b n (enc k) = scanK f z m k
  | 0, k, 0, _, h => absurd h (Nat.lt_irrefl _)
  | 0, k, n + 1, hk, _ => by
    have hk : k = len := by omega
    subst hk
    exact hfin _
  | m + 1, k, 0, _, h => absurd h (Nat.not_lt_zero _)
  | m + 1, k, n + 1, hk, hn => by
    show b (enc k) (loopN b n) = _
    rw [hstep k _ (by omega)]
    unfold scanK
    cases f k with
    | some r => rfl
    | none => exact loop_scan hstep hfin m (k + 1) n (by omega) (by omega)
/-- Is p so of all of k, .. k + m - 1? -/
theorem scan_all {R : Type} {p : Nat → Bool} {r z : Option R} : ∀ m k, scanK (fun k => bif p k then none else some r) z m k = bif (List.range' k m).all p then z else r
  | 0, k => rfl
  | m + 1, k => by
    rw [scanK, List.range'_succ, List.all_cons]
    cases h : p k with
    | true => simp only [cond_true, Bool.true_and]; exact scan_all m (k + 1)
    | false => rfl
theorem scan_any {R : Type} {p : Nat → Bool} {r z : Option R} : ∀ m k, scanK (fun k => bif p k then some r else none) z m k = bif (List.range' k m).any p then r else z
  | 0, k => rfl
  | m + 1, k => by
    rw [scanK, List.range'_succ, List.any_cons]
    cases h : p k with
    | false => simp only [cond_false, Bool.false_or]; exact scan_any m (k + 1)
    | true => rfl
theorem mgetI_mputI {β : Type} (l : List (Int × β)) (n m : Int) (v : β) : mgetI (mputI l n v) m = if m = n then some v else mgetI l m := by
  unfold mgetI mputI
  induction l with
  | nil =>
    by_cases h : m = n <;> simp [h]
  | cons a l ih =>
    rw [List.findIdx?_cons]
    by_cases h : n = a.1
    · simp only [h, decide_true, if_true, Option.elim_some, List.set_cons_zero, List.find?_cons]
      by_cases h2 : m = a.1
      · simp [h2]
      · simp [h2]
    · simp only [h, decide_false, Bool.false_eq_true, if_false]
      cases hf : l.findIdx? (fun e => decide (n = e.1)) with
      | none =>
        rw [hf] at ih
        simp only [Option.elim_none] at ih
        simp only [Option.map_none, Option.elim_none, List.cons_append, List.find?_cons]
        by_cases h2 : m = a.1
        · have : m ≠ n := fun e => h (e ▸ h2)
          simp [h2]
          simp [h2] at this
          simp [this]
        · simp only [h2, decide_false]
          exact ih
      | some i =>
        rw [hf] at ih
        simp only [Option.elim_some] at ih
        simp only [Option.map_some, Option.elim_some, List.set_cons_succ, List.find?_cons]
        by_cases h2 : m = a.1
        · have : m ≠ n := fun e => h (e ▸ h2)
          simp [h2]
          simp [h2] at this
          simp [this]
        · simp only [h2, decide_false]
          exact ih
theorem mgetI_nil {β : Type} (m : Int) : mgetI ([] : List (Int × β)) m = none := rfl
/-! ### Chains of tests -/
theorem bif_and' {α : Type} {a b : Bool} {x y : α} : (bif a then (bif b then x else y) else y) = bif a && b then x else y := by cases a <;> rfl
theorem bif_or' {α : Type} {a b : Bool} {x y : α} : (bif a then y else (bif b then x else y)) = bif !a && b then x else y := by cases a <;> rfl
theorem bif_and2 {α : Type} {a b : Bool} {x y : α} : (bif a then (bif b then y else x) else y) = bif a && !b then x else y := by cases a <;> cases b <;> rfl
theorem bif_or2 {α : Type} {a b : Bool} {x y : α} : (bif a then y else (bif b then y else x)) = bif !a && !b then x else y := by cases a <;> cases b <;> rfl
theorem bif_some {α β : Type} {a : Bool} {x y : α} {f : α → Option β} : (bif a then some x else some y).bind f = bif a then f x else f y := by cases a <;> rfl
theorem bif_tf {a : Bool} : (bif a then some true else some false) = some a := by cases a <;> rfl
theorem bif_ft {a : Bool} : (bif a then some false else some true) = some (!a) := by cases a <;> rfl
theorem bif_sf {a b : Bool} : (bif a then some b else some false) = some (a && b) := by cases a <;> rfl
theorem all_range_succ {p : Nat → Bool} {k : Nat} : (List.range (k + 1)).all p = ((List.range k).all p && p k) := by
  rw [List.range_succ, List.all_append]
  simp
theorem any_range_succ {p : Nat → Bool} {k : Nat} : (List.range (k + 1)).any p = ((List.range k).any p || p k) := by
  rw [List.range_succ, List.any_append]
  simp
theorem all_range_not {p : Nat → Bool} {k m : Nat} (hk : k < m) (h : p k = false) : (List.range m).all p = false := by
  rw [Bool.eq_false_iff]
  intro e
  rw [List.all_eq_true] at e
  rw [e k (List.mem_range.2 hk)] at h
  cases h
theorem any_range_of {p : Nat → Bool} {k m : Nat} (hk : k < m) (h : p k = true) : (List.range m).any p = true := by
  rw [List.any_eq_true]
  exact ⟨k, List.mem_range.2 hk, h⟩
/-- A loop that looks at k = 0, 1, .. and leaves at the first that is not so. -/
theorem loop_all {R : Type} {b : Int → (Int → Option R) → Option R} {len : Nat} {p : Nat → Bool} {no yes : Option R} (hlen : len ≤ 9223372036854775807)
    (hstep : ∀ (k : Nat) (J : Int → Option R), k < len → (∀ j, j < k → p j = true) → b (k : Int) J = bif p k then J ((k + 1 : Nat) : Int) else no) (hfin : ∀ J, (∀ j, j < len → p j = true) → b (len : Int) J = yes) {n : Nat} (hn : len < n) :
    loopN b n (0 : Int) = bif (List.range len).all p then yes else no := by
  refine loopN_ind (fun x => len - x.toNat) (fun x => ∃ k : Nat, k ≤ len ∧ x = (k : Int) ∧ (List.range k).all p = true) (fun x r => r = bif (List.range len).all p then yes else no) ?_ n _ ⟨0, by omega, rfl, rfl⟩ (by simp; omega)
  rintro _ J ⟨k, hk, rfl, hb⟩ ih
  have hb' : ∀ j, j < k → p j = true := fun j hj => List.all_eq_true.1 hb j (List.mem_range.2 hj)
  by_cases h : k < len
  · rw [hstep k J h hb']
    cases hp : p k with
    | true => exact ih _ ⟨k + 1, h, rfl, by rw [all_range_succ, hb, hp]; rfl⟩ (by simp; omega)
    | false => rw [all_range_not h hp]; rfl
  · have : k = len := by omega
    subst this
    rw [hfin _ hb', hb]
    rfl
/-- The same, a state turned on the way (its invariant: I). -/
theorem loop_allS {S R : Type} {X : Type} {enc : Int → S → X} {b : X → (X → Option R) → Option R} {len : Nat} {p : Nat → Bool} {I : Nat → S → Prop} {no yes : Option R}
    (hstep : ∀ (k : Nat) (s : S) (J : X → Option R), k < len → I k s → (∀ j, j < k → p j = true) → ∃ s', (p k = true → I (k + 1) s') ∧ b (enc (k : Int) s) J = bif p k then J (enc ((k + 1 : Nat) : Int) s') else no) (hfin : ∀ s J, I len s → (∀ j, j < len → p j = true) → b (enc (len : Int) s) J = yes) {n : Nat} (hn : len < n) {s0 : S} (h0 : I 0 s0) :
    loopN b n (enc (0 : Int) s0) = bif (List.range len).all p then yes else no := by
  have key : ∀ m (k : Nat) (s : S) n, k + m = len → m < n → I k s → (List.range k).all p = true → loopN b n (enc (k : Int) s) = bif (List.range len).all p then yes else no := by
    intro m
    induction m with
    | zero =>
      intro k s n hk hn hi hb
      have hb' : ∀ j, j < k → p j = true := fun j hj => List.all_eq_true.1 hb j (List.mem_range.2 hj)
      have hk : k = len := by omega
      subst hk
      cases n with
      | zero => omega
      | succ n => rw [loopN_succ, hfin s _ hi hb', hb]; rfl
    | succ m ih =>
      intro k s n hk hn hi hb
      have hb' : ∀ j, j < k → p j = true := fun j hj => List.all_eq_true.1 hb j (List.mem_range.2 hj)
      cases n with
      | zero => omega
      | succ n =>
        rw [loopN_succ]
        obtain ⟨s', h1, h2⟩ := hstep k s (loopN b n) (by omega) hi hb'
        rw [h2]
        cases hp : p k with
        | true => exact ih (k + 1) s' n (by omega) (by omega) (h1 hp) (by rw [all_range_succ, hb, hp]; rfl)
        | false => rw [all_range_not (by omega : k < len) hp]; rfl
  exact key len 0 s0 n (by omega) hn h0 rfl
/-- A loop over 0 .. len that never leaves early; its state: I. -/
theorem loop_runS {S R : Type} {X : Type} {enc : Int → S → X} {b : X → (X → Option R) → Option R} {len : Nat} {I : Nat → S → Prop} {Q : Option R → Prop}
    (hstep : ∀ (k : Nat) (s : S) (J : X → Option R), k < len → I k s → ∃ s', I (k + 1) s' ∧ b (enc (k : Int) s) J = J (enc ((k + 1 : Nat) : Int) s')) (hfin : ∀ s J, I len s → Q (b (enc (len : Int) s) J)) {n : Nat} (hn : len < n) {s0 : S} (h0 : I 0 s0) :
    Q (loopN b n (enc (0 : Int) s0)) := by
  have key : ∀ m (k : Nat) (s : S) n, k + m = len → m < n → I k s → Q (loopN b n (enc (k : Int) s)) := by
    intro m
    induction m with
    | zero =>
      intro k s n hk hn hi
      have hk : k = len := by omega
      subst hk
      cases n with
      | zero => omega
      | succ n => rw [loopN_succ]; exact hfin s _ hi
    | succ m ih =>
      intro k s n hk hn hi
      cases n with
      | zero => omega
      | succ n =>
        rw [loopN_succ]
        obtain ⟨s', h1, h2⟩ := hstep k s (loopN b n) (by omega) hi
        rw [h2]
        exact ih (k + 1) s' n (by omega) (by omega) h1
  exact key len 0 s0 n (by omega) hn h0
/-! ### Sums over lists -/
def sumOf {α : Type} (f : α → Nat) : List α → Nat
  | [] => 0
  | a :: l => f a + sumOf f l
theorem sumOf_append {α : Type} (f : α → Nat) : ∀ a b : List α, sumOf f (a ++ b) = sumOf f a + sumOf f b
  | [], b => by simp [sumOf]
  | x :: a, b => by simp only [List.cons_append, sumOf, sumOf_append f a b]; omega
theorem sumOf_take_succ {α : Type} {f : α → Nat} {l : List α} {k : Nat} {d : α} (h : k < l.length) : sumOf f (l.take (k + 1)) = sumOf f (l.take k) + f (l.getD k d) := by
  rw [take_succ_getD (d := d) h, sumOf_append]
  simp [sumOf]
theorem sumOf_take_le {α : Type} (f : α → Nat) (l : List α) (k : Nat) : sumOf f (l.take k) ≤ sumOf f l := by
  have := sumOf_append f (l.take k) (l.drop k)
  rw [List.take_append_drop] at this
  omega
theorem sumOf_mem {α : Type} {f : α → Nat} {l : List α} {k : Nat} {d : α} (h : k < l.length) : f (l.getD k d) ≤ sumOf f l := by
  have h1 := sumOf_take_succ (f := f) (d := d) h
  have h2 := sumOf_take_le f l (k + 1)
  omega
theorem sumOf_lin {α : Type} {f g : α → Nat} {c s : Nat} (h : ∀ y, f y ≤ c * g y + s) : ∀ l : List α, sumOf f l ≤ c * sumOf g l + s * l.length
  | [] => by simp [sumOf]
  | a :: l => by
    have h1 := h a
    have h2 := sumOf_lin h l
    simp only [sumOf, List.length_cons, Nat.mul_add, Nat.mul_succ]
    omega
theorem sumOf_const {α : Type} (c : Nat) : ∀ l : List α, sumOf (fun _ => c) l = c * l.length
  | [] => by simp [sumOf]
  | a :: l => by simp only [sumOf, sumOf_const c l, List.length_cons, Nat.mul_succ]; omega
theorem getD_set {α : Type} {l : List α} {k : Nat} {x d : α} (h : k < l.length) : (l.set k x).getD k d = x := by simp [List.getD, h]
theorem getD_set_ne {α : Type} {l : List α} {k j : Nat} {x d : α} (h : j ≠ k) : (l.set k x).getD j d = l.getD j d := by simp [List.getD, List.getElem?_set, Ne.symm h]
theorem getD_mem {α : Type} {l : List α} {k : Nat} {d : α} (h : k < l.length) : l.getD k d ∈ l := by rw [getD_eq h]; exact List.getElem_mem h
theorem take_drop_set {α : Type} {a : List α} {d : α} {m k : Nat} {x : α} (h : k < a.length) (hm : m = a.length) (hx : x = a.getD k d) : (a.take k ++ (List.replicate m d).drop k).set k x = a.take (k + 1) ++ (List.replicate m d).drop (k + 1) := by
  subst hx
  exact set_take h hm
/-! ### The first that is so -/
def idxOf (p : Nat → Bool) (m : Nat) : Int := match (List.range m).find? p with
  | some k => (k : Int)
  | none => -1
theorem find_range_none {p : Nat → Bool} {m : Nat} (h : ∀ j, j < m → p j = false) : (List.range m).find? p = none := by
  rw [List.find?_eq_none]
  intro x hx
  rw [h x (List.mem_range.1 hx)]
  simp
theorem find_range_some {p : Nat → Bool} {m k : Nat} (hk : k < m) (hp : p k = true) (h : ∀ j, j < k → p j = false) : (List.range m).find? p = some k := by
  have e : m = k + (m - k) := by omega
  rw [e, List.range_add, List.find?_append, find_range_none h, Option.none_or]
  obtain ⟨r, hr⟩ : ∃ r, m - k = r + 1 := ⟨m - k - 1, by omega⟩
  rw [hr, List.range_succ_eq_map]
  simp [hp]
theorem idxOf_ge (p : Nat → Bool) (m : Nat) : decide (idxOf p m ≥ 0) = (List.range m).any p := by
  unfold idxOf
  cases h : (List.range m).find? p with
  | none =>
    rw [List.find?_eq_none] at h
    rw [show (List.range m).any p = false from by rw [List.any_eq_false]; exact h]
    rfl
  | some k =>
    have h1 := List.find?_some h
    rw [show (List.range m).any p = true from List.any_eq_true.2 ⟨k, List.mem_of_find?_eq_some h, h1⟩]
    exact decide_eq_true (by show (0 : Int) ≤ (k : Int); omega)
theorem idxOf_lt (p : Nat → Bool) (m : Nat) : decide (idxOf p m < 0) = !(List.range m).any p := by
  rw [← idxOf_ge]
  by_cases h : idxOf p m < 0
  · rw [decide_eq_true h, decide_eq_false (by omega)]; rfl
  · rw [decide_eq_false h, decide_eq_true (by omega)]; rfl
theorem find_range (p : Nat → Bool) : ∀ m, ((List.range m).find? p = none ∧ ∀ j, j < m → p j = false) ∨ ∃ k, (List.range m).find? p = some k ∧ k < m ∧ p k = true ∧ ∀ j, j < k → p j = false
  | 0 => .inl ⟨rfl, fun j hj => absurd hj (Nat.not_lt_zero _)⟩
  | m + 1 => by
    rcases find_range p m with ⟨h1, h2⟩ | ⟨k, h1, h2, h3, h4⟩
    · cases hp : p m with
      | true => exact .inr ⟨m, find_range_some (by omega) hp h2, by omega, hp, h2⟩
      | false =>
        have : ∀ j, j < m + 1 → p j = false := fun j hj => by
          by_cases e : j = m
          · rw [e]; exact hp
          · exact h2 j (by omega)
        exact .inl ⟨find_range_none this, this⟩
    · exact .inr ⟨k, find_range_some (by omega) h3 h4, by omega, h3, h4⟩
theorem idxOf_spec (p : Nat → Bool) (m : Nat) : (idxOf p m = -1 ∧ ∀ j, j < m → p j = false) ∨ ∃ k : Nat, idxOf p m = (k : Int) ∧ k < m ∧ p k = true ∧ ∀ j, j < k → p j = false := by
  unfold idxOf
  rcases find_range p m with ⟨h1, h2⟩ | ⟨k, h1, h2, h3, h4⟩
  · rw [h1]; exact .inl ⟨rfl, h2⟩
  · rw [h1]; exact .inr ⟨k, rfl, h2, h3, h4⟩
/-- A loop that looks at k = 0, 1, .. and leaves at the first that is so. -/
theorem loop_find {R : Type} {b : Int → (Int → Option R) → Option R} {len : Nat} {p : Nat → Bool} {yes : Nat → Option R} {no : Option R} (hlen : len ≤ 9223372036854775807)
    (hstep : ∀ (k : Nat) (J : Int → Option R), k < len → (∀ j, j < k → p j = false) → b (k : Int) J = bif p k then yes k else J ((k + 1 : Nat) : Int)) (hfin : ∀ J, (∀ j, j < len → p j = false) → b (len : Int) J = no) {n : Nat} (hn : len < n) :
    loopN b n (0 : Int) = match (List.range len).find? p with | some k => yes k | none => no := by
  refine loopN_ind (fun x => len - x.toNat) (fun x => ∃ k : Nat, k ≤ len ∧ x = (k : Int) ∧ ∀ j, j < k → p j = false) (fun x r => r = match (List.range len).find? p with | some k => yes k | none => no) ?_ n _ ⟨0, by omega, rfl, fun j hj => absurd hj (Nat.not_lt_zero _)⟩ (by simp; omega)
  rintro _ J ⟨k, hk, rfl, hb⟩ ih
  by_cases h : k < len
  · rw [hstep k J h hb]
    cases hp : p k with
    | false => exact ih _ ⟨k + 1, h, rfl, fun j hj => by
        by_cases e : j = k
        · rw [e]; exact hp
        · exact hb j (by omega)⟩ (by simp; omega)
    | true => rw [find_range_some h hp hb]; rfl
  · have : k = len := by omega
    subst this
    rw [hfin _ hb, find_range_none hb]
theorem loop_idx {b : Int → (Int → Option Int) → Option Int} {len : Nat} {p : Nat → Bool} (hlen : len ≤ 9223372036854775807)
    (hstep : ∀ (k : Nat) (J : Int → Option Int), k < len → (∀ j, j < k → p j = false) → b (k : Int) J = bif p k then some (k : Int) else J ((k + 1 : Nat) : Int)) (hfin : ∀ J, (∀ j, j < len → p j = false) → b (len : Int) J = some (-1)) {n : Nat} (hn : len < n) :
    loopN b n (0 : Int) = some (idxOf p len) := by
  rw [loop_find (yes := fun k => some (k : Int)) (no := some (-1)) hlen hstep hfin hn]
  unfold idxOf
  cases (List.range len).find? p <;> rfl
theorem byteAt_rng (s : ByteArray) (k : Nat) : 0 ≤ byteAt s k ∧ byteAt s k ≤ 255 := by
  unfold byteAt
  have := (s.data.getD k 0).toNat_lt
  omega
theorem range_any {α : Type} {l : List α} {d : α} {f : α → Bool} : (List.range l.length).any (fun k => f (l.getD k d)) = l.any f := by
  induction l with
  | nil => rfl
  | cons a l ih =>
    rw [List.length_cons, List.range_succ_eq_map, List.any_cons, List.any_map, List.any_cons, ← ih]
    rfl
theorem range_all {α : Type} {l : List α} {d : α} {f : α → Bool} : (List.range l.length).all (fun k => f (l.getD k d)) = l.all f := by
  induction l with
  | nil => rfl
  | cons a l ih =>
    rw [List.length_cons, List.range_succ_eq_map, List.all_cons, List.all_map, List.all_cons, ← ih]
    rfl
theorem all_congr_lt {p q : Nat → Bool} {m : Nat} (h : ∀ k, k < m → p k = q k) : (List.range m).all p = (List.range m).all q := by
  rw [Bool.eq_iff_iff, List.all_eq_true, List.all_eq_true]
  constructor
  · intro g x hx; rw [← h x (List.mem_range.1 hx)]; exact g x hx
  · intro g x hx; rw [h x (List.mem_range.1 hx)]; exact g x hx
theorem any_congr_lt {p q : Nat → Bool} {m : Nat} (h : ∀ k, k < m → p k = q k) : (List.range m).any p = (List.range m).any q := by
  rw [Bool.eq_iff_iff, List.any_eq_true, List.any_eq_true]
  constructor
  · rintro ⟨x, hx, g⟩; exact ⟨x, hx, by rw [← h x (List.mem_range.1 hx)]; exact g⟩
  · rintro ⟨x, hx, g⟩; exact ⟨x, hx, by rw [h x (List.mem_range.1 hx)]; exact g⟩
theorem guard_sz {w : Nat} {x : Option Bool} (h : w ≤ 1048576 → x = some true) : (bif decide ((if (w : Int) ≤ 1048576 then 1048576 - (w : Int) else -1) < 0) then some true else x) = some true := by
  by_cases c : (w : Int) ≤ 1048576
  · rw [if_pos c, decide_eq_false (by omega), cond_false]
    exact h (by omega)
  · rw [if_neg c]
    rfl
end Go.Sm
end

section
set_option linter.unusedSimpArgs false
set_option linter.deprecated false
set_option linter.unusedSectionVars false
set_option linter.unusedVariables false
set_option linter.unusedSimpArgs false
namespace Go.Sm
attribute [local irreducible] bd chk ix loopN
/-! ### Draws -/
structure CurOk (c : Sl1Cur) : Prop where
  i : 0 ≤ c.i ∧ c.i ≤ (c.b.length : Int)
  len : c.b.length ≤ 1048576
theorem and255 (v : Int) : 0 ≤ w64 (((BitVec.ofInt 64 v &&& BitVec.ofInt 64 (255 : Int)).toNat : Nat) : Int) ∧ w64 (((BitVec.ofInt 64 v &&& BitVec.ofInt 64 (255 : Int)).toNat : Nat) : Int) ≤ 255 := by
  have h : (BitVec.ofInt 64 v &&& BitVec.ofInt 64 (255 : Int)).toNat ≤ 255 := by
    rw [BitVec.toNat_and]
    exact Nat.and_le_right
  rw [w64_id (by omega) (by omega)]
  omega
theorem byte_ok {n : Nat} {c : Sl1Cur} (h : CurOk c) : ∃ v c', spec_l1Byte n c = some (v, c') ∧ (0 ≤ v ∧ v ≤ 255) ∧ CurOk c' := by
  have h1 := h.i
  have h2 := h.len
  unfold spec_l1Byte
  simp only [bd_eq]
  by_cases hc : c.i < (c.b.length : Int)
  · rw [decide_eq_true hc, cond_true, ix_of h1.1 hc]
    refine ⟨_, _, rfl, and255 _, ⟨?_, h2⟩⟩
    show 0 ≤ w64 (c.i + 1) ∧ w64 (c.i + 1) ≤ (c.b.length : Int)
    rw [w64_id (by omega) (by omega)]
    omega
  · rw [decide_eq_false hc, cond_false]
    exact ⟨_, _, rfl, and255 _, ⟨h1, h2⟩⟩
theorem below_ok {n : Nat} {c : Sl1Cur} (h : CurOk c) {m : Int} (hm : 1 ≤ m ∧ m ≤ 256) : ∃ v c', spec_l1Below n c m = some (v, c') ∧ (0 ≤ v ∧ v < m) ∧ CurOk c' := by
  obtain ⟨v, c', h1, h2, h3⟩ := byte_ok (n := n) h
  unfold spec_l1Below
  rw [decide_eq_false (show ¬ m ≤ 0 by omega), cond_false, decide_eq_true (show m ≤ 256 by omega), cond_true, h1, Option.bind_some, decide_eq_false (show ¬ m = 0 by omega), cond_false]
  exact ⟨_, _, rfl, ⟨Int.tmod_nonneg _ h2.1, Int.tmod_lt_of_pos _ (by omega)⟩, h3⟩
theorem new_ok {n : Nat} (code : List Int) (hc : code.length ≤ 1048576) (hn : 1000000000 < n) : ∃ c, spec_l1New n code = some c ∧ CurOk c := by
  have hw : w64 ((59059 : Int) + (code.length : Int)) = 59059 + (code.length : Int) := w64_id (by omega) (by omega)
  unfold spec_l1New
  rw [bd_eq]
  have key : ∀ m k h fu, k + m = code.length → m < fu → ∃ c, loopN (fun (x : Int × Int) J' => spec_l1New_L3 n (fun h16 => some ((⟨code, (0 : Int), h16⟩ : Sl1Cur))) (fun h17 i18 => J' (h17, i18)) code x.1 x.2) fu (h, (k : Int)) = some c ∧ CurOk c := by
    intro m
    induction m with
    | zero =>
      intro k h fu hk hfu
      obtain ⟨f, rfl⟩ : ∃ f, fu = f + 1 := ⟨fu - 1, by omega⟩
      rw [loopN_succ]
      refine ⟨⟨code, 0, h⟩, ?_, ⟨by show (0 : Int) ≤ 0 ∧ (0 : Int) ≤ (code.length : Int); omega, hc⟩⟩
      show spec_l1New_L3 n _ _ code h (k : Int) = _
      unfold spec_l1New_L3
      rw [decide_eq_false (by omega), cond_false]
    | succ m ih =>
      intro k h fu hk hfu
      obtain ⟨f, rfl⟩ : ∃ f, fu = f + 1 := ⟨fu - 1, by omega⟩
      rw [loopN_succ]
      have hstep : ∀ J : Int → Int → Option Sl1Cur, ∃ h', spec_l1New_L3 n (fun h16 => some ((⟨code, (0 : Int), h16⟩ : Sl1Cur))) J code h (k : Int) = J h' ((k + 1 : Nat) : Int) ∨ spec_l1New_L3 n (fun h16 => some ((⟨code, (0 : Int), h16⟩ : Sl1Cur))) J code h (k : Int) = some ⟨code, 0, h⟩ := by
        intro J
        unfold spec_l1New_L3 spec_l1New_k0
        rw [decide_eq_true (show (k : Int) < (code.length : Int) by omega), cond_true]
        cases decide ((k : Int) < 4000) with
        | true =>
          rw [cond_true, ix_nat (by omega), bd_eq, bd_eq, w64_succ (show k < 9223372036854775807 by omega)]
          exact ⟨_, .inl rfl⟩
        | false => exact ⟨0, .inr rfl⟩
      obtain ⟨h', e | e⟩ := hstep (fun h17 i18 => loopN (fun (x : Int × Int) J' => spec_l1New_L3 n (fun h16 => some ((⟨code, (0 : Int), h16⟩ : Sl1Cur))) (fun h17 i18 => J' (h17, i18)) code x.1 x.2) f (h17, i18))
      · obtain ⟨c, g1, g2⟩ := ih (k + 1) h' f (by omega) (by omega)
        exact ⟨c, e.trans g1, g2⟩
      · exact ⟨⟨code, 0, h⟩, e, ⟨by show (0 : Int) ≤ 0 ∧ (0 : Int) ≤ (code.length : Int); omega, hc⟩⟩
  exact key code.length 0 _ n (by omega) (by omega)
theorem onceB_ok {n : Nat} {c : Sl1Cur} (h : CurOk c) {m : Int} (hm : 1 ≤ m ∧ m ≤ 256) : ∃ v c', spec_l1Once n c m = some (v, c') ∧ CurOk c' := by
  obtain ⟨v, c', h1, h2, h3⟩ := below_ok (n := n) h hm
  unfold spec_l1Once
  rw [h1, Option.bind_some]
  exact ⟨_, _, rfl, h3⟩
/-! ### Exchanges -/
def swp2 (p : List Int) (i j : Nat) : List Int := (p.set i (p.getD j 0)).set j (p.getD i 0)
theorem swp2_len (p : List Int) (i j : Nat) : (swp2 p i j).length = p.length := by simp [swp2]
theorem swp2_at (p : List Int) {i j : Nat} (hi : i < p.length) (hj : j < p.length) (k : Nat) : (swp2 p i j).getD k 0 = if k = j then p.getD i 0 else if k = i then p.getD j 0 else p.getD k 0 := by
  unfold swp2
  by_cases h1 : k = j
  · subst h1; rw [if_pos rfl, getD_set (by simp; exact hj)]
  · rw [if_neg h1, getD_set_ne h1]
    by_cases h2 : k = i
    · subst h2; rw [if_pos rfl, getD_set hi]
    · rw [if_neg h2, getD_set_ne h2]
theorem count_set1 (p : List Int) {i : Nat} (hi : i < p.length) (x a : Int) : (p.set i x).count a + (if p.getD i 0 = a then 1 else 0) = p.count a + (if x = a then 1 else 0) := by
  induction p generalizing i with
  | nil => simp at hi
  | cons y p ih =>
    cases i with
    | zero =>
      rw [List.set_cons_zero, List.count_cons, List.count_cons]
      simp only [List.getD_cons_zero, beq_iff_eq]
      omega
    | succ i =>
      rw [List.set_cons_succ, List.count_cons, List.count_cons]
      have := ih (i := i) (by simpa using hi)
      simp only [List.getD_cons_succ, beq_iff_eq]
      omega
theorem swp2_perm (p : List Int) {i j : Nat} (hi : i < p.length) (hj : j < p.length) : (swp2 p i j).Perm p := by
  rw [List.perm_iff_count]
  intro a
  unfold swp2
  have h1 := count_set1 p hi (p.getD j 0) a
  have h2 := count_set1 (p.set i (p.getD j 0)) (i := j) (by simp; exact hj) (p.getD i 0) a
  have h3 : (p.set i (p.getD j 0)).getD j 0 = p.getD j 0 := by
    by_cases e : j = i
    · subst e; exact getD_set hi
    · exact getD_set_ne e
  rw [h3] at h2
  omega
/-- What is turned lies from a to b. -/
structure Re (a b : Nat) (p q : List Int) : Prop where
  len : q.length = p.length
  out : ∀ i, (i < a ∨ b ≤ i) → q.getD i 0 = p.getD i 0
  perm : q.Perm p
  from_ : ∀ i, a ≤ i → i < b → ∃ j, a ≤ j ∧ j < b ∧ q.getD i 0 = p.getD j 0
theorem Re.refl (a b : Nat) (p : List Int) : Re a b p p := ⟨rfl, fun _ _ => rfl, .refl _, fun i h1 h2 => ⟨i, h1, h2, rfl⟩⟩
theorem Re.trans {a b : Nat} {p q r : List Int} (h : Re a b p q) (k : Re a b q r) : Re a b p r :=
  ⟨k.len.trans h.len, fun i hi => (k.out i hi).trans (h.out i hi), k.perm.trans h.perm, fun i h1 h2 => by
    obtain ⟨j, j1, j2, j3⟩ := k.from_ i h1 h2
    obtain ⟨x, x1, x2, x3⟩ := h.from_ j j1 j2
    exact ⟨x, x1, x2, j3.trans x3⟩⟩
theorem Re.wider {a b a' b' : Nat} {p q : List Int} (h : Re a b p q) (ha : a' ≤ a) (hb : b ≤ b') : Re a' b' p q :=
  ⟨h.len, fun i hi => h.out i (by omega), h.perm, fun i h1 h2 => by
    by_cases hi : a ≤ i ∧ i < b
    · obtain ⟨j, j1, j2, j3⟩ := h.from_ i hi.1 hi.2
      exact ⟨j, by omega, by omega, j3⟩
    · exact ⟨i, h1, h2, h.out i (by omega)⟩⟩
theorem Re.swp {a b : Nat} (p : List Int) {i j : Nat} (hi : a ≤ i ∧ i < b) (hj : a ≤ j ∧ j < b) (hb : b ≤ p.length) : Re a b p (swp2 p i j) :=
  ⟨swp2_len _ _ _, fun k hk => by rw [swp2_at p (by omega) (by omega), if_neg (by omega), if_neg (by omega)], swp2_perm p (by omega) (by omega), fun k h1 h2 => by
    rw [swp2_at p (by omega) (by omega)]
    by_cases e1 : k = j
    · exact ⟨i, hi.1, hi.2, by rw [if_pos e1]⟩
    · by_cases e2 : k = i
      · exact ⟨j, hj.1, hj.2, by rw [if_neg e1, if_pos e2]⟩
      · exact ⟨k, h1, h2, by rw [if_neg e1, if_neg e2]⟩⟩
/-! ### Two stretches change places -/
theorem swap_range {n : Nat} (p : List Int) (L : List SCall) {a b c : Nat} (hab : a + c ≤ b) (hb : b + c ≤ p.length) (hp : p.length ≤ 1000) (hn : 1000000000 < n) :
    ∃ q, slices_swapRangeCmpFunc_int__impl_BerthAll_1 n p (a : Int) (b : Int) (c : Int) L = some q ∧ Re a (b + c) p q ∧ (∀ t, t < c → q.getD (a + t) 0 = p.getD (b + t) 0 ∧ q.getD (b + t) 0 = p.getD (a + t) 0) ∧ ∀ k, a + c ≤ k → k < b → q.getD k 0 = p.getD k 0 := by
  unfold slices_swapRangeCmpFunc_int__impl_BerthAll_1
  refine loop_runS (enc := fun i (s : List Int) => (i, s)) (I := fun k s => Re a (b + c) p s ∧ (∀ t, t < k → s.getD (a + t) 0 = p.getD (b + t) 0 ∧ s.getD (b + t) 0 = p.getD (a + t) 0) ∧ ∀ x, (∀ t, t < k → x ≠ a + t ∧ x ≠ b + t) → s.getD x 0 = p.getD x 0)
    (Q := fun r => ∃ q, r = some q ∧ Re a (b + c) p q ∧ (∀ t, t < c → q.getD (a + t) 0 = p.getD (b + t) 0 ∧ q.getD (b + t) 0 = p.getD (a + t) 0) ∧ ∀ k, a + c ≤ k → k < b → q.getD k 0 = p.getD k 0) (len := c)
    (fun k s J hk hI => ?_) (fun s J hI => ?_) (by omega) ⟨.refl _ _ _, fun t ht => absurd ht (Nat.not_lt_zero _), fun _ _ => rfl⟩
  · obtain ⟨h1, h2, h3⟩ := hI
    have hl := h1.len
    have ha1 : a + k < s.length := by omega
    have hb1 : b + k < s.length := by omega
    have e1 : w64 ((a : Int) + (k : Int)) = ((a + k : Nat) : Int) := by rw [w64_id (by omega) (by omega)]; omega
    have e2 : w64 ((b : Int) + (k : Int)) = ((b + k : Nat) : Int) := by rw [w64_id (by omega) (by omega)]; omega
    have e3 : w64 ((k : Int) + 1) = ((k + 1 : Nat) : Int) := w64_succ (by omega)
    refine ⟨swp2 s (a + k) (b + k), ⟨h1.trans (.swp s (by omega) (by omega) (by omega)), fun t ht => ?_, fun x hx => ?_⟩, ?_⟩
    · rw [swp2_at s ha1 hb1, swp2_at s ha1 hb1]
      by_cases e : t = k
      · subst e
        rw [if_neg (by omega), if_pos rfl, if_pos rfl]
        exact ⟨h3 _ fun u hu => by omega, h3 _ fun u hu => by omega⟩
      · rw [if_neg (by omega), if_neg (by omega), if_neg (by omega), if_neg (by omega)]
        exact h2 t (by omega)
    · rw [swp2_at s ha1 hb1, if_neg (hx k (by omega)).2, if_neg (hx k (by omega)).1]
      exact h3 x fun t ht => hx t (by omega)
    · show slices_swapRangeCmpFunc_int__impl_BerthAll_1_L1 n _ (fun i11 p12 => J (i11, p12)) (a : Int) (b : Int) (c : Int) (k : Int) s = _
      unfold slices_swapRangeCmpFunc_int__impl_BerthAll_1_L1 slices_swapRangeCmpFunc_int__impl_BerthAll_1_k0
      rw [decide_eq_true (show (k : Int) < (c : Int) by omega), cond_true, e1, e2, ix_nat hb1, Int.toNat_natCast, chk_dec hb1, ix_nat ha1, Int.toNat_natCast, chk_dec ha1, ix_nat ha1, chk_dec ha1, bd_eq, ix_nat (by simp; exact hb1), chk_dec (by simp; exact hb1), bd_eq, e3]
      rfl
  · show ∃ q, slices_swapRangeCmpFunc_int__impl_BerthAll_1_L1 n _ (fun i11 p12 => J (i11, p12)) (a : Int) (b : Int) (c : Int) (c : Int) s = some q ∧ _
    unfold slices_swapRangeCmpFunc_int__impl_BerthAll_1_L1
    rw [decide_eq_false (by omega), cond_false]
    exact ⟨s, rfl, hI.1, hI.2.1, fun k h1 h2 => hI.2.2 k fun t ht => by omega⟩
/-! ### A stretch goes round -/
structure Rot (a m b : Nat) (p q : List Int) : Prop where
  re : Re a b p q
  fst : ∀ t, t < b - m → q.getD (a + t) 0 = p.getD (m + t) 0
  snd : ∀ t, t < m - a → q.getD (a + (b - m) + t) 0 = p.getD (a + t) 0
theorem rotate_loop {n : Nat} (L : List SCall) {m : Nat} (hn : 1000000000 < n) : ∀ (w : Nat) (i j fuel : Nat) (p : List Int), i + j ≤ w → w < fuel → 0 < i → 0 < j → i ≤ m → m + j ≤ p.length → p.length ≤ 1000 →
    ∃ q, loopN (fun (x : Int × Int × List Int) J' => slices_rotateCmpFunc_int__impl_BerthAll_1_L2 n (fun i15 p16 => (slices_swapRangeCmpFunc_int__impl_BerthAll_1 n p16 (w64 ((m : Int) - i15)) (m : Int) i15 L).bind fun r17 => some (r17)) (fun i18 j19 p20 => J' (i18, j19, p20)) (m : Int) L x.1 x.2.1 x.2.2) fuel ((i : Int), (j : Int), p) = some q ∧ Rot (m - i) m (m + j) p q := by
  intro w
  induction w with
  | zero => intro i j fuel p h1 h2 h3 h4; omega
  | succ w ih =>
    intro i j fuel p hw hf hi hj him hml hp
    obtain ⟨f, rfl⟩ : ∃ f, fuel = f + 1 := ⟨fuel - 1, by omega⟩
    rw [loopN_succ]
    have e1 : w64 ((m : Int) - (i : Int)) = ((m - i : Nat) : Int) := by rw [w64_id (by omega) (by omega)]; omega
    show ∃ q, slices_rotateCmpFunc_int__impl_BerthAll_1_L2 n _ _ (m : Int) L (i : Int) (j : Int) p = some q ∧ _
    unfold slices_rotateCmpFunc_int__impl_BerthAll_1_L2
    by_cases hij : i = j
    · subst hij
      rw [decide_eq_true rfl, Bool.not_true, cond_false]
      obtain ⟨q, q1, q2, q3, q4⟩ := swap_range p L (a := m - i) (b := m) (c := i) (by omega) (by omega) hp hn
      show ∃ q, (slices_swapRangeCmpFunc_int__impl_BerthAll_1 n p (w64 ((m : Int) - (i : Int))) (m : Int) (i : Int) L).bind _ = some q ∧ _
      rw [e1, q1, Option.bind_some]
      refine ⟨q, rfl, ⟨q2, fun t ht => (q3 t (by omega)).1, fun t ht => ?_⟩⟩
      have := (q3 t (by omega)).2
      rw [show m - i + (m + i - m) + t = m + t by omega]
      exact this
    · rw [decide_eq_false (by omega), Bool.not_false, cond_true]
      by_cases hgt : i > j
      · rw [decide_eq_true (show (i : Int) > (j : Int) by omega), cond_true, e1]
        obtain ⟨q, q1, q2, q3, q4⟩ := swap_range p L (a := m - i) (b := m) (c := j) (by omega) (by omega) hp hn
        have e2 : w64 ((i : Int) - (j : Int)) = ((i - j : Nat) : Int) := by rw [w64_id (by omega) (by omega)]; omega
        rw [q1, Option.bind_some, e2]
        obtain ⟨r, r1, r2⟩ := ih (i - j) j f q (by omega) (by omega) (by omega) hj (by omega) (by rw [q2.len]; exact hml) (by rw [q2.len]; exact hp)
        refine ⟨r, r1, ⟨q2.trans (r2.re.wider (by omega) (by omega)), fun t ht => ?_, fun t ht => ?_⟩⟩
        · rw [r2.re.out _ (by omega), (q3 t (by omega)).1]
        · by_cases htj : t < j
          · have := r2.fst t (by omega)
            rw [show m - i + (m + j - m) + t = m - (i - j) + t by omega, this, (q3 t htj).2]
          · have := r2.snd (t - j) (by omega)
            rw [show m - i + (m + j - m) + t = m - (i - j) + (m + j - m) + (t - j) by omega, this, q4 _ (by omega) (by omega)]
            congr 1; omega
      · rw [decide_eq_false (show ¬ (i : Int) > (j : Int) by omega), cond_false, bd_eq, e1]
        have e2 : w64 ((m : Int) + (j : Int)) = ((m + j : Nat) : Int) := by rw [w64_id (by omega) (by omega)]; omega
        have e3 : w64 (((m + j : Nat) : Int) - (i : Int)) = ((m + j - i : Nat) : Int) := by rw [w64_id (by omega) (by omega)]; omega
        have e4 : w64 ((j : Int) - (i : Int)) = ((j - i : Nat) : Int) := by rw [w64_id (by omega) (by omega)]; omega
        obtain ⟨q, q1, q2, q3, q4⟩ := swap_range p L (a := m - i) (b := m + j - i) (c := i) (by omega) (by omega) hp hn
        rw [e2, e3, q1, Option.bind_some, e4]
        obtain ⟨r, r1, r2⟩ := ih i (j - i) f q (by omega) (by omega) hi (by omega) him (by rw [q2.len]; omega) (by rw [q2.len]; exact hp)
        have q2' : Re (m - i) (m + j) p q := q2.wider (Nat.le_refl _) (by omega)
        refine ⟨r, r1, ⟨q2'.trans (r2.re.wider (by omega) (by omega)), fun t ht => ?_, fun t ht => ?_⟩⟩
        · by_cases htj : t < j - i
          · rw [r2.fst t (by omega), q4 _ (by omega) (by omega)]
          · have := r2.snd (t - (j - i)) (by omega)
            rw [show m - i + t = m - i + (m + (j - i) - m) + (t - (j - i)) by omega, this, (q3 (t - (j - i)) (by omega)).1]
            congr 1; omega
        · have := (q3 t (by omega)).2
          rw [show m - i + (m + j - m) + t = m + j - i + t by omega, r2.re.out _ (by omega), this]
theorem rotate_ok {n : Nat} (L : List SCall) {a m b : Nat} {p : List Int} (h1 : a < m) (h2 : m < b) (hb : b ≤ p.length) (hp : p.length ≤ 1000) (hn : 1000000000 < n) : ∃ q, slices_rotateCmpFunc_int__impl_BerthAll_1 n p (a : Int) (m : Int) (b : Int) L = some q ∧ Rot a m b p q := by
  unfold slices_rotateCmpFunc_int__impl_BerthAll_1
  have e1 : w64 ((m : Int) - (a : Int)) = ((m - a : Nat) : Int) := by rw [w64_id (by omega) (by omega)]; omega
  have e2 : w64 ((b : Int) - (m : Int)) = ((b - m : Nat) : Int) := by rw [w64_id (by omega) (by omega)]; omega
  rw [e1, e2]
  obtain ⟨q, q1, q2⟩ := rotate_loop (n := n) L (m := m) hn (b - a) (m - a) (b - m) n p (by omega) (by omega) (by omega) (by omega) (by omega) (by omega) hp
  refine ⟨q, q1, ?_⟩
  rw [show m - (m - a) = a by omega, show m + (b - m) = b by omega] at q2
  exact q2
/-! ### The order: by coming, then by number -/
def frm (L : List SCall) (x : Int) : Int := (L.getD x.toNat dSCall).From
def ltC (L : List SCall) (x y : Int) : Prop := frm L x < frm L y ∨ (frm L x = frm L y ∧ x < y)
theorem ltC_trans {L : List SCall} {x y z : Int} (h : ltC L x y) (k : ltC L y z) : ltC L x z := by unfold ltC at *; omega
theorem ltC_irr {L : List SCall} {x : Int} (h : ltC L x x) : False := by unfold ltC at h; omega
/-- Numbers of calls. -/
def Vld (L : List SCall) (p : List Int) : Prop := ∀ x ∈ p, 0 ≤ x ∧ x < (L.length : Int)
theorem Vld.at_ {L : List SCall} {p : List Int} (h : Vld L p) {i : Nat} (hi : i < p.length) : 0 ≤ p.getD i 0 ∧ p.getD i 0 < (L.length : Int) := h _ (getD_mem hi)
theorem Vld.re {L : List SCall} {p q : List Int} (h : Vld L p) (hq : q.Perm p) : Vld L q := fun x hx => h x (hq.mem_iff.1 hx)
theorem cmp_int17 (n : Nat) (x y : Int) : cmp_Compare_int n x y = some (if x < y then -1 else if x > y then 1 else 0) := by
  unfold cmp_Compare_int cmp_isNaN_int
  simp only [decide_true, Bool.not_true, Option.bind_some, cond_false]
  by_cases h : x < y
  · simp [h]
  · by_cases h2 : x > y <;> simp [h, h2]
theorem cmp_call (n : Nat) {L : List SCall} {x y : Int} (hx : 0 ≤ x ∧ x < (L.length : Int)) (hy : 0 ≤ y ∧ y < (L.length : Int)) : ∃ r, impl_BerthAll_1 n x y L = some r ∧ decide (r < 0) = decide (frm L x < frm L y) := by
  unfold impl_BerthAll_1
  rw [ix_of hx.1 hx.2, bd_eq, ix_of hy.1 hy.2, bd_eq, cmp_int17, Option.bind_some]
  refine ⟨_, rfl, ?_⟩
  show _ = decide ((L.getD x.toNat dSCall).From < (L.getD y.toNat dSCall).From)
  generalize (L.getD x.toNat dSCall).From = u
  generalize (L.getD y.toNat dSCall).From = v
  by_cases h : u < v
  · simp [h]
  · by_cases h2 : u > v <;> simp [h, h2]
def Srt (L : List SCall) (a b : Nat) (p : List Int) : Prop := ∀ i j, a ≤ i → i < j → j < b → ltC L (p.getD i 0) (p.getD j 0)
theorem Srt.congr {L : List SCall} {a b : Nat} {p q : List Int} (h : Srt L a b p) (he : ∀ i, a ≤ i → i < b → q.getD i 0 = p.getD i 0) : Srt L a b q := fun i j h1 h2 h3 => by
  rw [he i h1 (by omega), he j (by omega) h3]; exact h i j h1 h2 h3
/-- Side by side, all of the left ahead of all of the right. -/
theorem Srt.join {L : List SCall} {a m b : Nat} {p : List Int} (h1 : Srt L a m p) (h2 : Srt L m b p) (hx : ∀ i j, a ≤ i → i < m → m ≤ j → j < b → ltC L (p.getD i 0) (p.getD j 0)) : Srt L a b p := fun i j g1 g2 g3 => by
  by_cases him : j < m
  · exact h1 i j g1 g2 him
  · by_cases hi : i < m
    · exact hx i j g1 hi (by omega) g3
    · exact h2 i j (by omega) g2 g3
/-! ### Sorting by insertion -/
theorem insert_in {R : Type} {n : Nat} {Q : Option R → Prop} (kx : List Int → Option R) {L : List SCall} {a i b : Nat} (i0 : Int) {p0 : List Int} (ha : a ≤ i) (hib : i < b) (hb : b ≤ p0.length) (hpl : p0.length ≤ 1000) (hv : Vld L p0) (hs : Srt L a i p0) (hx : ∀ x, a ≤ x → x < i → p0.getD x 0 < p0.getD i 0)
    (hq : ∀ q, Re a (i + 1) p0 q → Srt L a (i + 1) q → Q (kx q)) (hn : 1000000000 < n) :
    ∀ (j fuel : Nat) (p : List Int), j < fuel → a ≤ j → j ≤ i → Re a (i + 1) p0 p → p.getD j 0 = p0.getD i 0 → Srt L a j p → Srt L (j + 1) (i + 1) p → (∀ x y, a ≤ x → x < j → j < y → y ≤ i → ltC L (p.getD x 0) (p.getD y 0)) → (∀ y, j < y → y ≤ i → ltC L (p.getD j 0) (p.getD y 0)) → (∀ x, a ≤ x → x < j → p.getD x 0 < p.getD j 0) →
    Q (loopN (fun (x : Int × List Int) J' => slices_insertionSortCmpFunc_int__impl_BerthAll_1_L4 n kx (fun j30 p31 => J' (j30, p31)) (a : Int) (b : Int) L i0 x.1 x.2) fuel ((j : Int), p)) := by
  intro j
  induction j with
  | zero =>
    intro fuel p hf haj hji hre hpj hsl hsr hlr hjr hxj
    obtain ⟨f, rfl⟩ : ∃ f, fuel = f + 1 := ⟨fuel - 1, by omega⟩
    rw [loopN_succ]
    show Q (slices_insertionSortCmpFunc_int__impl_BerthAll_1_L4 n kx _ (a : Int) (b : Int) L i0 ((0 : Nat) : Int) p)
    unfold slices_insertionSortCmpFunc_int__impl_BerthAll_1_L4
    rw [decide_eq_false (by omega), cond_false]
    refine hq p hre fun x y h1 h2 h3 => ?_
    by_cases hx0 : x = 0
    · subst hx0; exact hjr y (by omega) (by omega)
    · exact hsr x y (by omega) h2 h3
  | succ j ih =>
    intro fuel p hf haj hji hre hpj hsl hsr hlr hjr hxj
    obtain ⟨f, rfl⟩ : ∃ f, fuel = f + 1 := ⟨fuel - 1, by omega⟩
    rw [loopN_succ]
    have hl := hre.len
    have hj1 : j + 1 < p.length := by omega
    have hj0 : j < p.length := by omega
    have hfin : Srt L a (j + 1) p → (∀ x, a ≤ x → x < j + 1 → ltC L (p.getD x 0) (p.getD (j + 1) 0)) → Srt L a (i + 1) p := fun h1 h2 x y g1 g2 g3 => by
      by_cases c1 : y < j + 1
      · exact h1 x y g1 g2 c1
      · by_cases c2 : x < j + 1
        · by_cases c3 : y = j + 1
          · subst c3; exact h2 x g1 c2
          · exact hlr x y g1 c2 (by omega) (by omega)
        · by_cases c4 : x = j + 1
          · subst c4; exact hjr y g2 (by omega)
          · exact hsr x y (by omega) g2 g3
    show Q (slices_insertionSortCmpFunc_int__impl_BerthAll_1_L4 n kx _ (a : Int) (b : Int) L i0 ((j + 1 : Nat) : Int) p)
    unfold slices_insertionSortCmpFunc_int__impl_BerthAll_1_L4
    by_cases haj' : a = j + 1
    · rw [decide_eq_false (by omega), cond_false]
      exact hq p hre (hfin (fun x y g1 g2 g3 => by omega) fun x g1 g2 => by omega)
    · have e1 : w64 (((j + 1 : Nat) : Int) - 1) = (j : Int) := by rw [w64_id (by omega) (by omega)]; omega
      have hvp := hv.re hre.perm
      obtain ⟨r, r1, r2⟩ := cmp_call n (hvp.at_ hj1) (hvp.at_ hj0)
      rw [decide_eq_true (show ((j + 1 : Nat) : Int) > (a : Int) by omega), cond_true, ix_nat hj1, Int.toNat_natCast, chk_dec hj1, e1, ix_nat hj0, Int.toNat_natCast, chk_dec hj0, r1, Option.bind_some, r2]
      have hxx := hxj j (by omega) (by omega)
      by_cases hlt : frm L (p.getD (j + 1) 0) < frm L (p.getD j 0)
      · rw [decide_eq_true hlt, cond_true]
        unfold slices_insertionSortCmpFunc_int__impl_BerthAll_1_k0
        rw [e1, ix_nat hj0, Int.toNat_natCast, chk_dec hj0, ix_nat hj1, Int.toNat_natCast, chk_dec hj1, ix_nat hj1, chk_dec hj1, bd_eq, ix_nat (by simp; exact hj0), chk_dec (by simp; exact hj0), bd_eq]
        have hsl' : ∀ y, j + 1 < y → y ≤ i → ltC L (p.getD j 0) (p.getD y 0) := fun y h1 h2 => hlr j y (by omega) (by omega) h1 h2
        have hsw : ∀ k, (swp2 p (j + 1) j).getD k 0 = if k = j then p.getD (j + 1) 0 else if k = j + 1 then p.getD j 0 else p.getD k 0 := swp2_at p hj1 hj0
        refine ih f (swp2 p (j + 1) j) (by omega) (by omega) (by omega) (hre.trans (.swp p (by omega) (by omega) (by omega))) ?_ ?_ ?_ ?_ ?_ ?_
        · rw [hsw, if_pos rfl]; exact hpj
        · exact (fun x y g1 g2 g3 => by
            rw [hsw, hsw, if_neg (by omega), if_neg (by omega), if_neg (by omega), if_neg (by omega)]; exact hsl x y g1 g2 (by omega))
        · intro x y g1 g2 g3
          rw [hsw, hsw, if_neg (show ¬ x = j by omega), if_neg (show ¬ y = j by omega), if_neg (show ¬ y = j + 1 by omega)]
          by_cases c : x = j + 1
          · rw [if_pos c]; exact hsl' y (by omega) (by omega)
          · rw [if_neg c]; exact hsr x y (by omega) g2 g3
        · intro x y g1 g2 g3 g4
          rw [hsw, hsw, if_neg (show ¬ x = j by omega), if_neg (show ¬ x = j + 1 by omega), if_neg (show ¬ y = j by omega)]
          by_cases c : y = j + 1
          · rw [if_pos c]; exact hsl x j g1 g2 (by omega)
          · rw [if_neg c]; exact hlr x y g1 (by omega) (by omega) g4
        · intro y g1 g2
          rw [hsw, hsw, if_pos rfl, if_neg (by omega)]
          by_cases c : y = j + 1
          · rw [if_pos c]; exact .inl hlt
          · rw [if_neg c]; exact hjr y (by omega) g2
        · intro x g1 g2
          rw [hsw, hsw, if_pos rfl, if_neg (by omega), if_neg (by omega)]
          exact hxj x g1 (by omega)
      · rw [decide_eq_false hlt, cond_false]
        have hjj : ltC L (p.getD j 0) (p.getD (j + 1) 0) := by unfold ltC; omega
        exact hq p hre (hfin hsl fun x g1 g2 => by
          by_cases c : x = j
          · subst c; exact hjj
          · exact ltC_trans (hsl x j g1 (by omega) (by omega)) hjj)
theorem insertion_ok {n : Nat} {L : List SCall} {a b : Nat} {p0 : List Int} (hab : a ≤ b) (hb : b ≤ p0.length) (hpl : p0.length ≤ 1000) (hv : Vld L p0) (hx : ∀ x y, a ≤ x → x < y → y < b → p0.getD x 0 < p0.getD y 0) (hn : 1000000000 < n) :
    ∃ q, slices_insertionSortCmpFunc_int__impl_BerthAll_1 n p0 (a : Int) (b : Int) L = some q ∧ Re a b p0 q ∧ Srt L a b q := by
  unfold slices_insertionSortCmpFunc_int__impl_BerthAll_1
  have e0 : w64 ((a : Int) + 1) = ((a + 1 : Nat) : Int) := w64_succ (by omega)
  rw [e0]
  have key : ∀ (m i fuel : Nat) (p : List Int), i + m = max b (a + 1) → m < fuel → a < i → Re a b p0 p → Srt L a i p → (∀ x y, a ≤ x → x < i → i ≤ y → y < b → p.getD x 0 < p.getD y 0) → (∀ x y, i ≤ x → x < y → y < b → p.getD x 0 < p.getD y 0) →
      ∃ q, loopN (fun (x : Int × List Int) J' => slices_insertionSortCmpFunc_int__impl_BerthAll_1_L1 n (fun p32 => some (p32)) (fun i33 p34 => J' (i33, p34)) (a : Int) (b : Int) L x.1 x.2) fuel ((i : Int), p) = some q ∧ Re a b p0 q ∧ Srt L a b q := by
    intro m
    induction m with
    | zero =>
      intro i fuel p h1 h2 h3 hre hs _ _
      obtain ⟨f, rfl⟩ : ∃ f, fuel = f + 1 := ⟨fuel - 1, by omega⟩
      rw [loopN_succ]
      show ∃ q, slices_insertionSortCmpFunc_int__impl_BerthAll_1_L1 n _ _ (a : Int) (b : Int) L (i : Int) p = some q ∧ _
      unfold slices_insertionSortCmpFunc_int__impl_BerthAll_1_L1
      rw [decide_eq_false (by omega), cond_false]
      exact ⟨p, rfl, hre, fun x y g1 g2 g3 => hs x y g1 g2 (by omega)⟩
    | succ m ih =>
      intro i fuel p h1 h2 h3 hre hs hx1 hx2
      obtain ⟨f, rfl⟩ : ∃ f, fuel = f + 1 := ⟨fuel - 1, by omega⟩
      rw [loopN_succ]
      show ∃ q, slices_insertionSortCmpFunc_int__impl_BerthAll_1_L1 n _ _ (a : Int) (b : Int) L (i : Int) p = some q ∧ _
      unfold slices_insertionSortCmpFunc_int__impl_BerthAll_1_L1
      have e1 : w64 ((i : Int) + 1) = ((i + 1 : Nat) : Int) := w64_succ (by omega)
      have hib : i < b := by omega
      rw [decide_eq_true (show (i : Int) < (b : Int) by omega), cond_true]
      refine insert_in (Q := fun r => ∃ q, r = some q ∧ Re a b p0 q ∧ Srt L a b q) _ (i : Int) (p0 := p) (by omega) hib (by rw [hre.len]; exact hb) (by rw [hre.len]; exact hpl) (hv.re hre.perm) hs (fun x g1 g2 => hx1 x i g1 g2 (Nat.le_refl _) hib) (fun q q1 q2 => ?_) hn i n p (by omega) (by omega) (Nat.le_refl _) (.refl _ _ _) rfl hs (fun x y g1 g2 g3 => by omega) (fun x y g1 g2 g3 g4 => by omega) (fun y g1 g2 => by omega) (fun x g1 g2 => hx1 x i g1 g2 (Nat.le_refl _) hib)
      show ∃ q', loopN _ f (w64 ((i : Int) + 1), q) = some q' ∧ _
      rw [e1]
      refine ih (i + 1) f q (by omega) (by omega) (by omega) (hre.trans (q1.wider (Nat.le_refl _) (by omega))) q2 (fun x y g1 g2 g3 g4 => ?_) (fun x y g1 g2 g3 => ?_)
      · obtain ⟨x', c1, c2, c3⟩ := q1.from_ x g1 g2
        rw [c3, q1.out y (by omega)]
        by_cases hxi : x' = i
        · subst hxi; exact hx2 x' y (Nat.le_refl _) (by omega) g4
        · exact hx1 x' y c1 (by omega) (by omega) g4
      · rw [q1.out x (by omega), q1.out y (by omega)]
        exact hx2 x y (by omega) g2 g3
  exact key (max b (a + 1) - (a + 1)) (a + 1) n p0 (by omega) (by omega) (by omega) (.refl _ _ _) (fun x y g1 g2 g3 => by omega) (fun x y g1 g2 g3 g4 => hx x y g1 (by omega) g4) (fun x y g1 g2 g3 => hx x y (by omega) g2 g3)
/-! ### Search by halves -/
theorem half_of {i j : Nat} (hi : i ≤ 100000) (hj : j ≤ 100000) : w64 (Int.fdiv (wu64 (w64 ((i : Int) + (j : Int)))) (2 ^ (min (1 : Int).toNat 64))) = (((i + j) / 2 : Nat) : Int) := by
  have e1 : w64 ((i : Int) + (j : Int)) = ((i + j : Nat) : Int) := by rw [w64_id (by omega) (by omega)]; omega
  have e2 : wu64 ((i + j : Nat) : Int) = ((i + j : Nat) : Int) := by
    unfold wu64 IntKind.wrap
    simp only [IntKind.bits, IntKind.signed]
    have : ((i + j : Nat) : Int) % 18446744073709551616 = ((i + j : Nat) : Int) := Int.emod_eq_of_lt (by omega) (by omega)
    simpa using this
  rw [e1, e2]
  have e3 : (2 : Int) ^ (min (1 : Int).toNat 64) = 2 := by decide
  rw [e3, Int.fdiv_eq_ediv_of_nonneg _ (by omega)]
  have e4 : ((i + j : Nat) : Int) / 2 = (((i + j) / 2 : Nat) : Int) := by omega
  rw [e4, w64_id (by omega) (by omega)]
theorem bsearch {R : Type} {b : Int × Int → (Int × Int → Option R) → Option R} {kx : Int → Option R} {P : Nat → Bool} {lo hi : Nat}
    (hstep : ∀ (i j : Nat) (J : Int × Int → Option R), lo ≤ i → i < j → j ≤ hi → b ((i : Int), (j : Int)) J = bif P ((i + j) / 2) then J ((((i + j) / 2 + 1 : Nat) : Int), (j : Int)) else J ((i : Int), (((i + j) / 2 : Nat) : Int)))
    (hfin : ∀ (i : Nat) (J : Int × Int → Option R), b ((i : Int), (i : Int)) J = kx (i : Int)) (hmono : ∀ x y, lo ≤ x → x ≤ y → y < hi → P y = true → P x = true) (hlh : lo ≤ hi) {n : Nat} (hn : hi < n) :
    ∃ s : Nat, lo ≤ s ∧ s ≤ hi ∧ (∀ x, lo ≤ x → x < s → P x = true) ∧ (∀ x, s ≤ x → x < hi → P x = false) ∧ loopN b n ((lo : Int), (hi : Int)) = kx (s : Int) := by
  have key : ∀ (w i j fuel : Nat), j - i ≤ w → w < fuel → lo ≤ i → i ≤ j → j ≤ hi → (∀ x, lo ≤ x → x < i → P x = true) → (∀ x, j ≤ x → x < hi → P x = false) →
      ∃ s : Nat, lo ≤ s ∧ s ≤ hi ∧ (∀ x, lo ≤ x → x < s → P x = true) ∧ (∀ x, s ≤ x → x < hi → P x = false) ∧ loopN b fuel ((i : Int), (j : Int)) = kx (s : Int) := by
    intro w
    induction w with
    | zero =>
      intro i j fuel h1 h2 h3 h4 h5 h6 h7
      obtain ⟨f, rfl⟩ : ∃ f, fuel = f + 1 := ⟨fuel - 1, by omega⟩
      have : i = j := by omega
      subst this
      exact ⟨i, h3, h5, h6, h7, by rw [loopN_succ]; exact hfin i _⟩
    | succ w ih =>
      intro i j fuel h1 h2 h3 h4 h5 h6 h7
      obtain ⟨f, rfl⟩ : ∃ f, fuel = f + 1 := ⟨fuel - 1, by omega⟩
      rw [loopN_succ]
      by_cases hij : i = j
      · subst hij
        exact ⟨i, h3, h5, h6, h7, hfin i _⟩
      · rw [hstep i j _ h3 (by omega) h5]
        have hm1 : i ≤ (i + j) / 2 := by omega
        have hm2 : (i + j) / 2 < j := by omega
        generalize (i + j) / 2 = c at hm1 hm2 ⊢
        cases hP : P c with
        | true => exact ih (c + 1) j f (by omega) (by omega) (by omega) (by omega) h5 (fun x g1 g2 => hmono x c g1 (by omega) (by omega) hP) h7
        | false =>
          refine ih i c f (by omega) (by omega) h3 hm1 (by omega) h6 fun x g1 g2 => ?_
          cases hx : P x with
          | false => rfl
          | true => rw [hmono c x (by omega) g1 g2 hx] at hP; cases hP
  exact key (hi - lo) lo hi n (Nat.le_refl _) (by omega) (Nat.le_refl _) hlh (Nat.le_refl _) (fun x g1 g2 => by omega) fun x g1 g2 => by omega
/-! ### Two sorted stretches become one -/
structure MP (L : List SCall) (a m b : Nat) (p : List Int) : Prop where
  len : b ≤ p.length
  pl : p.length ≤ 1000
  v : Vld L p
  l : Srt L a m p
  r : Srt L m b p
  x : ∀ i j, a ≤ i → i < m → m ≤ j → j < b → p.getD i 0 < p.getD j 0
theorem MP.no {L : List SCall} {a m b : Nat} {p : List Int} (h : MP L a m b p) {i j : Nat} (h1 : a ≤ i) (h2 : i < m) (h3 : m ≤ j) (h4 : j < b) (hn : ¬ frm L (p.getD j 0) < frm L (p.getD i 0)) : ltC L (p.getD i 0) (p.getD j 0) := by
  have := h.x i j h1 h2 h3 h4
  unfold ltC; omega
theorem Srt.le {L : List SCall} {a b : Nat} {p : List Int} (h : Srt L a b p) {i j : Nat} (h1 : a ≤ i) (h2 : i ≤ j) (h3 : j < b) : frm L (p.getD i 0) ≤ frm L (p.getD j 0) := by
  by_cases e : i = j
  · subst e; exact Int.le_refl _
  · have := h i j h1 (by omega) h3
    unfold ltC at this; omega
abbrev SymT := List Int → Int → Int → Int → List SCall → Option (List Int)
theorem L9_step {R : Type} {n : Nat} (rc : SymT) (kx : List Int → Option R) (J : Int → List Int → Option R) {s k : Nat} {q : List Int} (hks : k < s - 1) (hk1 : k + 1 < q.length) (hs : s ≤ 100000) : slices_symMergeCmpFunc_int__impl_BerthAll_1_L9 n rc kx J (s : Int) (k : Int) q = J ((k + 1 : Nat) : Int) (swp2 q k (k + 1)) := by
  have e1 : w64 ((s : Int) - 1) = ((s - 1 : Nat) : Int) := by rw [w64_id (by omega) (by omega)]; omega
  have e2 : w64 ((k : Int) + 1) = ((k + 1 : Nat) : Int) := w64_succ (by omega)
  have hk : k < q.length := by omega
  unfold slices_symMergeCmpFunc_int__impl_BerthAll_1_L9 slices_symMergeCmpFunc_int__impl_BerthAll_1_k1
  rw [e1, decide_eq_true (show (k : Int) < ((s - 1 : Nat) : Int) by omega), cond_true, e2, ix_nat hk1, Int.toNat_natCast, chk_dec hk1, ix_nat hk, Int.toNat_natCast, chk_dec hk, ix_nat hk, chk_dec hk, bd_eq, ix_nat (by simp; exact hk1), chk_dec (by simp; exact hk1), bd_eq]
  rfl
theorem L21_step {R : Type} {n : Nat} (rc : SymT) (kx : List Int → Option R) (J : Int → List Int → Option R) {s k : Nat} {q : List Int} (hks : s < k) (hk : k < q.length) (hs : k ≤ 100000) : slices_symMergeCmpFunc_int__impl_BerthAll_1_L21 n rc kx J (s : Int) (k : Int) q = J ((k - 1 : Nat) : Int) (swp2 q k (k - 1)) := by
  have e2 : w64 ((k : Int) - 1) = ((k - 1 : Nat) : Int) := by rw [w64_id (by omega) (by omega)]; omega
  have hk1 : k - 1 < q.length := by omega
  unfold slices_symMergeCmpFunc_int__impl_BerthAll_1_L21 slices_symMergeCmpFunc_int__impl_BerthAll_1_k3
  rw [decide_eq_true (show (k : Int) > (s : Int) by omega), cond_true, e2, ix_nat hk1, Int.toNat_natCast, chk_dec hk1, ix_nat hk, Int.toNat_natCast, chk_dec hk, ix_nat hk, chk_dec hk, bd_eq, ix_nat (by simp; exact hk1), chk_dec (by simp; exact hk1), bd_eq]
  rfl
/-- The first goes up. -/
theorem shift_up {n : Nat} (rc : SymT) {a s b : Nat} {p : List Int} (has : a < s) (hsb : s ≤ b) (hb : b ≤ p.length) (hpl : p.length ≤ 1000) (hn : 1000000000 < n) :
    ∃ q, loopN (fun (x : Int × List Int) J' => slices_symMergeCmpFunc_int__impl_BerthAll_1_L9 n rc (fun p19 => some (p19)) (fun k20 p21 => J' (k20, p21)) (s : Int) x.1 x.2) n ((a : Int), p) = some q ∧ Re a b p q ∧ q.getD (s - 1) 0 = p.getD a 0 ∧ (∀ x, a ≤ x → x < s - 1 → q.getD x 0 = p.getD (x + 1) 0) ∧ ∀ x, s ≤ x → x < b → q.getD x 0 = p.getD x 0 := by
  have e1 : w64 ((s : Int) - 1) = ((s - 1 : Nat) : Int) := by rw [w64_id (by omega) (by omega)]; omega
  have key : ∀ (w k fuel : Nat) (q : List Int), k + w = s - 1 → w < fuel → a ≤ k → Re a b p q → q.getD k 0 = p.getD a 0 → (∀ x, a ≤ x → x < k → q.getD x 0 = p.getD (x + 1) 0) → (∀ x, k < x → x < b → q.getD x 0 = p.getD x 0) →
      ∃ r, loopN (fun (x : Int × List Int) J' => slices_symMergeCmpFunc_int__impl_BerthAll_1_L9 n rc (fun p19 => some (p19)) (fun k20 p21 => J' (k20, p21)) (s : Int) x.1 x.2) fuel ((k : Int), q) = some r ∧ Re a b p r ∧ r.getD (s - 1) 0 = p.getD a 0 ∧ (∀ x, a ≤ x → x < s - 1 → r.getD x 0 = p.getD (x + 1) 0) ∧ ∀ x, s ≤ x → x < b → r.getD x 0 = p.getD x 0 := by
    intro w
    induction w with
    | zero =>
      intro k fuel q h1 h2 h3 h4 h5 h6 h7
      obtain ⟨f, rfl⟩ : ∃ f, fuel = f + 1 := ⟨fuel - 1, by omega⟩
      have : k = s - 1 := by omega
      subst this
      rw [loopN_succ]
      show ∃ r, slices_symMergeCmpFunc_int__impl_BerthAll_1_L9 n rc _ _ (s : Int) ((s - 1 : Nat) : Int) q = some r ∧ _
      unfold slices_symMergeCmpFunc_int__impl_BerthAll_1_L9
      rw [e1, decide_eq_false (by omega), cond_false]
      exact ⟨q, rfl, h4, h5, h6, fun x g1 g2 => h7 x (by omega) g2⟩
    | succ w ih =>
      intro k fuel q h1 h2 h3 h4 h5 h6 h7
      obtain ⟨f, rfl⟩ : ∃ f, fuel = f + 1 := ⟨fuel - 1, by omega⟩
      rw [loopN_succ]
      have hl := h4.len
      have hk : k < q.length := by omega
      have hk1 : k + 1 < q.length := by omega
      show ∃ r, slices_symMergeCmpFunc_int__impl_BerthAll_1_L9 n rc _ _ (s : Int) (k : Int) q = some r ∧ _
      rw [L9_step rc _ _ (by omega) hk1 (by omega)]
      have hsw : ∀ x, (swp2 q k (k + 1)).getD x 0 = if x = k + 1 then q.getD k 0 else if x = k then q.getD (k + 1) 0 else q.getD x 0 := swp2_at q hk hk1
      refine ih (k + 1) f (swp2 q k (k + 1)) (by omega) (by omega) (by omega) (h4.trans (.swp q (by omega) (by omega) (by omega))) (by rw [hsw, if_pos rfl]; exact h5) (fun x g1 g2 => ?_) (fun x g1 g2 => ?_)
      · rw [hsw, if_neg (by omega)]
        by_cases c : x = k
        · rw [if_pos c, c, h7 (k + 1) (by omega) (by omega)]
        · rw [if_neg c]; exact h6 x g1 (by omega)
      · rw [hsw, if_neg (by omega), if_neg (by omega)]; exact h7 x (by omega) g2
  exact key (s - 1 - a) a n p (by omega) (by omega) (Nat.le_refl _) (.refl _ _ _) rfl (fun x g1 g2 => by omega) fun _ _ _ => rfl
/-- The last goes down. -/
theorem shift_down {n : Nat} (rc : SymT) {a s m b : Nat} {p : List Int} (has : a ≤ s) (hsm : s ≤ m) (hmb : m < b) (hb : b ≤ p.length) (hpl : p.length ≤ 1000) (hn : 1000000000 < n) :
    ∃ q, loopN (fun (x : Int × List Int) J' => slices_symMergeCmpFunc_int__impl_BerthAll_1_L21 n rc (fun p43 => some (p43)) (fun k44 p45 => J' (k44, p45)) (s : Int) x.1 x.2) n ((m : Int), p) = some q ∧ Re a b p q ∧ q.getD s 0 = p.getD m 0 ∧ (∀ x, s < x → x ≤ m → q.getD x 0 = p.getD (x - 1) 0) ∧ ∀ x, a ≤ x → x < s → q.getD x 0 = p.getD x 0 := by
  have key : ∀ (w k fuel : Nat) (q : List Int), s + w = k → w < fuel → k ≤ m → Re a b p q → q.getD k 0 = p.getD m 0 → (∀ x, k < x → x ≤ m → q.getD x 0 = p.getD (x - 1) 0) → (∀ x, a ≤ x → x < k → q.getD x 0 = p.getD x 0) →
      ∃ r, loopN (fun (x : Int × List Int) J' => slices_symMergeCmpFunc_int__impl_BerthAll_1_L21 n rc (fun p43 => some (p43)) (fun k44 p45 => J' (k44, p45)) (s : Int) x.1 x.2) fuel ((k : Int), q) = some r ∧ Re a b p r ∧ r.getD s 0 = p.getD m 0 ∧ (∀ x, s < x → x ≤ m → r.getD x 0 = p.getD (x - 1) 0) ∧ ∀ x, a ≤ x → x < s → r.getD x 0 = p.getD x 0 := by
    intro w
    induction w with
    | zero =>
      intro k fuel q h1 h2 h3 h4 h5 h6 h7
      obtain ⟨f, rfl⟩ : ∃ f, fuel = f + 1 := ⟨fuel - 1, by omega⟩
      have : s = k := by omega
      subst this
      rw [loopN_succ]
      show ∃ r, slices_symMergeCmpFunc_int__impl_BerthAll_1_L21 n rc _ _ (s : Int) (s : Int) q = some r ∧ _
      unfold slices_symMergeCmpFunc_int__impl_BerthAll_1_L21
      rw [decide_eq_false (by omega), cond_false]
      exact ⟨q, rfl, h4, h5, h6, h7⟩
    | succ w ih =>
      intro k fuel q h1 h2 h3 h4 h5 h6 h7
      obtain ⟨f, rfl⟩ : ∃ f, fuel = f + 1 := ⟨fuel - 1, by omega⟩
      rw [loopN_succ]
      have hl := h4.len
      have hk : k < q.length := by omega
      have hk1 : k - 1 < q.length := by omega
      show ∃ r, slices_symMergeCmpFunc_int__impl_BerthAll_1_L21 n rc _ _ (s : Int) (k : Int) q = some r ∧ _
      rw [L21_step rc _ _ (by omega) hk (by omega)]
      have hsw : ∀ x, (swp2 q k (k - 1)).getD x 0 = if x = k - 1 then q.getD k 0 else if x = k then q.getD (k - 1) 0 else q.getD x 0 := swp2_at q hk hk1
      refine ih (k - 1) f (swp2 q k (k - 1)) (by omega) (by omega) (by omega) (h4.trans (.swp q (by omega) (by omega) (by omega))) (by rw [hsw, if_pos rfl]; exact h5) (fun x g1 g2 => ?_) (fun x g1 g2 => ?_)
      · rw [hsw, if_neg (by omega)]
        by_cases c : x = k
        · rw [if_pos c, c, h7 (k - 1) (by omega) (by omega)]
        · rw [if_neg c]; exact h6 x (by omega) g2
      · rw [hsw, if_neg (by omega), if_neg (by omega)]; exact h7 x g1 (by omega)
  exact key (m - s) m n p (by omega) (by omega) (Nat.le_refl _) (.refl _ _ _) rfl (fun x g1 g2 => by omega) fun _ _ _ => rfl
/-- One on the left. -/
theorem merge_left {n : Nat} (rc : SymT) {L : List SCall} {a b : Nat} {p : List Int} (h : MP L a (a + 1) b p) (hab : a + 1 < b) (hn : 1000000000 < n) :
    ∃ q, loopN (fun (x : Int × Int) J' => slices_symMergeCmpFunc_int__impl_BerthAll_1_L3 n rc (fun i11 => loopN (fun (x : Int × List Int) J' => slices_symMergeCmpFunc_int__impl_BerthAll_1_L9 n rc (fun p19 => some (p19)) (fun k20 p21 => J' (k20, p21)) i11 x.1 x.2) n ((a : Int), p)) (fun i22 j23 => J' (i22, j23)) (a : Int) L x.1 x.2 p) n (((a + 1 : Nat) : Int), (b : Int)) = some q ∧ Re a b p q ∧ Srt L a b q := by
  have hl := h.len
  have hpl := h.pl
  have ha : a < p.length := by omega
  obtain ⟨s, s1, s2, s3, s4, s5⟩ := bsearch (R := List Int) (P := fun c => decide (frm L (p.getD c 0) < frm L (p.getD a 0))) (lo := a + 1) (hi := b) (n := n) (b := fun (x : Int × Int) J' => slices_symMergeCmpFunc_int__impl_BerthAll_1_L3 n rc (fun i11 => loopN (fun (x : Int × List Int) J' => slices_symMergeCmpFunc_int__impl_BerthAll_1_L9 n rc (fun p19 => some (p19)) (fun k20 p21 => J' (k20, p21)) i11 x.1 x.2) n ((a : Int), p)) (fun i22 j23 => J' (i22, j23)) (a : Int) L x.1 x.2 p)
    (kx := fun i11 => loopN (fun (x : Int × List Int) J' => slices_symMergeCmpFunc_int__impl_BerthAll_1_L9 n rc (fun p19 => some (p19)) (fun k20 p21 => J' (k20, p21)) i11 x.1 x.2) n ((a : Int), p)) (fun i j J g1 g2 g3 => by
      have hc : (i + j) / 2 < p.length := by omega
      obtain ⟨r, r1, r2⟩ := cmp_call n (h.v.at_ hc) (h.v.at_ ha)
      have e : w64 ((((i + j) / 2 : Nat) : Int) + 1) = (((i + j) / 2 + 1 : Nat) : Int) := w64_succ (by omega)
      show slices_symMergeCmpFunc_int__impl_BerthAll_1_L3 n rc _ (fun i22 j23 => J (i22, j23)) (a : Int) L (i : Int) (j : Int) p = _
      unfold slices_symMergeCmpFunc_int__impl_BerthAll_1_L3 slices_symMergeCmpFunc_int__impl_BerthAll_1_k0
      rw [decide_eq_true (show (i : Int) < (j : Int) by omega), cond_true, bd_eq, half_of (by omega) (by omega), ix_nat hc, Int.toNat_natCast, chk_dec hc, ix_nat ha, Int.toNat_natCast, chk_dec ha, r1, Option.bind_some, r2, bd_eq, e]) (fun i J => by
      show slices_symMergeCmpFunc_int__impl_BerthAll_1_L3 n rc _ (fun i22 j23 => J (i22, j23)) (a : Int) L (i : Int) (i : Int) p = _
      unfold slices_symMergeCmpFunc_int__impl_BerthAll_1_L3
      rw [decide_eq_false (by omega), cond_false]) (fun x y g1 g2 g3 g4 => by
      have := h.r.le g1 g2 g3
      simp only [decide_eq_true_eq] at g4 ⊢
      omega) (by omega) (by omega)
  rw [s5]
  obtain ⟨q, q1, q2, q3, q4, q5⟩ := shift_up (n := n) rc (a := a) (s := s) (b := b) (p := p) (by omega) s2 hl hpl hn
  refine ⟨q, q1, q2, fun i j g1 g2 g3 => ?_⟩
  have hP : ∀ x, a + 1 ≤ x → x < s → ltC L (p.getD x 0) (p.getD a 0) := fun x c1 c2 => by
    have := s3 x c1 c2
    simp only [decide_eq_true_eq] at this
    exact .inl this
  have hN : ∀ x, s ≤ x → x < b → ltC L (p.getD a 0) (p.getD x 0) := fun x c1 c2 => h.no (Nat.le_refl _) (by omega) (by omega) c2 (by
    have := s4 x c1 c2
    simpa using this)
  by_cases ci : i < s - 1
  · rw [q4 i g1 ci]
    by_cases cj : j < s - 1
    · rw [q4 j (by omega) cj]; exact h.r (i + 1) (j + 1) (by omega) (by omega) (by omega)
    · by_cases cj2 : j = s - 1
      · rw [cj2, q3]; exact hP (i + 1) (by omega) (by omega)
      · rw [q5 j (by omega) g3]; exact h.r (i + 1) j (by omega) (by omega) g3
  · by_cases ci2 : i = s - 1
    · rw [ci2, q3, q5 j (by omega) g3]; exact hN j (by omega) g3
    · rw [q5 i (by omega) (by omega), q5 j (by omega) g3]; exact h.r i j (by omega) g2 g3
/-- One on the right. -/
theorem merge_right {n : Nat} (rc : SymT) {L : List SCall} {a m : Nat} {p : List Int} (h : MP L a m (m + 1) p) (ham : a < m) (hn : 1000000000 < n) :
    ∃ q, loopN (fun (x : Int × Int) J' => slices_symMergeCmpFunc_int__impl_BerthAll_1_L15 n rc (fun i35 => loopN (fun (x : Int × List Int) J' => slices_symMergeCmpFunc_int__impl_BerthAll_1_L21 n rc (fun p43 => some (p43)) (fun k44 p45 => J' (k44, p45)) i35 x.1 x.2) n ((m : Int), p)) (fun i46 j47 => J' (i46, j47)) (m : Int) L x.1 x.2 p) n ((a : Int), (m : Int)) = some q ∧ Re a (m + 1) p q ∧ Srt L a (m + 1) q := by
  have hl := h.len
  have hpl := h.pl
  have hm : m < p.length := by omega
  obtain ⟨s, s1, s2, s3, s4, s5⟩ := bsearch (R := List Int) (P := fun c => !decide (frm L (p.getD m 0) < frm L (p.getD c 0))) (lo := a) (hi := m) (n := n) (b := fun (x : Int × Int) J' => slices_symMergeCmpFunc_int__impl_BerthAll_1_L15 n rc (fun i35 => loopN (fun (x : Int × List Int) J' => slices_symMergeCmpFunc_int__impl_BerthAll_1_L21 n rc (fun p43 => some (p43)) (fun k44 p45 => J' (k44, p45)) i35 x.1 x.2) n ((m : Int), p)) (fun i46 j47 => J' (i46, j47)) (m : Int) L x.1 x.2 p)
    (kx := fun i35 => loopN (fun (x : Int × List Int) J' => slices_symMergeCmpFunc_int__impl_BerthAll_1_L21 n rc (fun p43 => some (p43)) (fun k44 p45 => J' (k44, p45)) i35 x.1 x.2) n ((m : Int), p)) (fun i j J g1 g2 g3 => by
      have hc : (i + j) / 2 < p.length := by omega
      obtain ⟨r, r1, r2⟩ := cmp_call n (h.v.at_ hm) (h.v.at_ hc)
      have e : w64 ((((i + j) / 2 : Nat) : Int) + 1) = (((i + j) / 2 + 1 : Nat) : Int) := w64_succ (by omega)
      show slices_symMergeCmpFunc_int__impl_BerthAll_1_L15 n rc _ (fun i46 j47 => J (i46, j47)) (m : Int) L (i : Int) (j : Int) p = _
      unfold slices_symMergeCmpFunc_int__impl_BerthAll_1_L15 slices_symMergeCmpFunc_int__impl_BerthAll_1_k2
      rw [decide_eq_true (show (i : Int) < (j : Int) by omega), cond_true, bd_eq, half_of (by omega) (by omega), ix_nat hm, Int.toNat_natCast, chk_dec hm, ix_nat hc, Int.toNat_natCast, chk_dec hc, r1, Option.bind_some, r2, bd_eq, e]) (fun i J => by
      show slices_symMergeCmpFunc_int__impl_BerthAll_1_L15 n rc _ (fun i46 j47 => J (i46, j47)) (m : Int) L (i : Int) (i : Int) p = _
      unfold slices_symMergeCmpFunc_int__impl_BerthAll_1_L15
      rw [decide_eq_false (by omega), cond_false]) (fun x y g1 g2 g3 g4 => by
      have := h.l.le g1 g2 g3
      simp only [Bool.not_eq_true', decide_eq_false_iff_not] at g4 ⊢
      omega) (by omega) (by omega)
  rw [s5]
  obtain ⟨q, q1, q2, q3, q4, q5⟩ := shift_down (n := n) rc (a := a) (s := s) (m := m) (b := m + 1) (p := p) s1 s2 (by omega) hl hpl hn
  refine ⟨q, q1, q2, fun i j g1 g2 g3 => ?_⟩
  have hP : ∀ x, a ≤ x → x < s → ltC L (p.getD x 0) (p.getD m 0) := fun x c1 c2 => h.no c1 (by omega) (Nat.le_refl _) (by omega) (by
    have := s3 x c1 c2
    simpa using this)
  have hN : ∀ x, s ≤ x → x < m → ltC L (p.getD m 0) (p.getD x 0) := fun x c1 c2 => by
    have := s4 x c1 c2
    simp only [Bool.not_eq_false', decide_eq_true_eq] at this
    exact .inl this
  by_cases ci : i < s
  · rw [q5 i g1 ci]
    by_cases cj : j < s
    · rw [q5 j (by omega) cj]; exact h.l i j g1 g2 (by omega)
    · by_cases cj2 : j = s
      · rw [cj2, q3]; exact hP i g1 ci
      · rw [q4 j (by omega) (by omega)]; exact h.l i (j - 1) g1 (by omega) (by omega)
  · by_cases ci2 : i = s
    · rw [ci2, q3, q4 j (by omega) (by omega)]; exact hN (j - 1) (by omega) (by omega)
    · rw [q4 i (by omega) (by omega), q4 j (by omega) (by omega)]; exact h.l (i - 1) (j - 1) (by omega) (by omega) (by omega)
end Go.Sm
end

section
set_option linter.unusedSimpArgs false
set_option linter.deprecated false
set_option linter.unusedSectionVars false
set_option linter.unusedVariables false
set_option linter.unusedSimpArgs false
namespace Go.Sm
attribute [local irreducible] bd chk ix loopN
/-! ### The halves merged -/
def RC (rc : SymT) (L : List SCall) (w : Nat) : Prop := ∀ (a m b : Nat) (p : List Int), a < m → m < b → b - a ≤ w → MP L a m b p → ∃ q, rc p (a : Int) (m : Int) (b : Int) L = some q ∧ Re a b p q ∧ Srt L a b q
theorem sym_tail {rc : SymT} {L : List SCall} {mid en b w : Nat} {q : List Int} (hrc : RC rc L w) (h1 : mid ≤ en) (h2 : en ≤ b) (hw : b - mid ≤ w) (h : MP L mid en b q) :
    ∃ r, (bif decide ((mid : Int) < (en : Int)) then (bif decide ((en : Int) < (b : Int)) then (rc q (mid : Int) (en : Int) (b : Int) L).bind fun r => some r else some q) else some q) = some r ∧ Re mid b q r ∧ Srt L mid b r := by
  by_cases c1 : mid < en
  · by_cases c2 : en < b
    · obtain ⟨r, r1, r2, r3⟩ := hrc mid en b q c1 c2 hw h
      refine ⟨r, ?_, r2, r3⟩
      rw [decide_eq_true (show (mid : Int) < (en : Int) by omega), cond_true, decide_eq_true (show (en : Int) < (b : Int) by omega), cond_true, r1, Option.bind_some]
    · have e : en = b := by omega
      refine ⟨q, ?_, .refl _ _ _, e ▸ h.l⟩
      rw [decide_eq_true (show (mid : Int) < (en : Int) by omega), cond_true, decide_eq_false (show ¬ (en : Int) < (b : Int) by omega), cond_false]
  · have e : mid = en := by omega
    refine ⟨q, ?_, .refl _ _ _, by rw [e]; exact h.r⟩
    rw [decide_eq_false (show ¬ (mid : Int) < (en : Int) by omega), cond_false]
theorem k6_ok {n : Nat} {rc : SymT} {L : List SCall} {a s mid en b w : Nat} {q : List Int} (hrc : RC rc L w) (has : a ≤ s) (hsm : s ≤ mid) (hme : mid ≤ en) (heb : en ≤ b) (hw1 : mid - a ≤ w) (hw2 : b - mid ≤ w) (hl : MP L a s mid q) (hr : MP L mid en b q)
    (hx : ∀ i j, a ≤ i → i < mid → mid ≤ j → j < b → ltC L (q.getD i 0) (q.getD j 0)) :
    ∃ r, slices_symMergeCmpFunc_int__impl_BerthAll_1_k6 n rc (a : Int) (b : Int) L (mid : Int) (s : Int) (en : Int) q = some r ∧ Re a b q r ∧ Srt L a b r := by
  have head : ∃ q1, slices_symMergeCmpFunc_int__impl_BerthAll_1_k6 n rc (a : Int) (b : Int) L (mid : Int) (s : Int) (en : Int) q = (bif decide ((mid : Int) < (en : Int)) then (bif decide ((en : Int) < (b : Int)) then (rc q1 (mid : Int) (en : Int) (b : Int) L).bind fun r => some r else some q1) else some q1) ∧ Re a mid q q1 ∧ Srt L a mid q1 := by
    unfold slices_symMergeCmpFunc_int__impl_BerthAll_1_k6 slices_symMergeCmpFunc_int__impl_BerthAll_1_k5
    by_cases c1 : a < s
    · by_cases c2 : s < mid
      · obtain ⟨r, r1, r2, r3⟩ := hrc a s mid q c1 c2 hw1 hl
        refine ⟨r, ?_, r2, r3⟩
        rw [decide_eq_true (show (a : Int) < (s : Int) by omega), cond_true, decide_eq_true (show (s : Int) < (mid : Int) by omega), cond_true, r1, Option.bind_some]
      · refine ⟨q, ?_, .refl _ _ _, ?_⟩
        · rw [decide_eq_true (show (a : Int) < (s : Int) by omega), cond_true, decide_eq_false (show ¬ (s : Int) < (mid : Int) by omega), cond_false]
        · have e : s = mid := by omega
          exact e ▸ hl.l
    · refine ⟨q, ?_, .refl _ _ _, ?_⟩
      · rw [decide_eq_false (show ¬ (a : Int) < (s : Int) by omega), cond_false]
      · have e : a = s := by omega
        rw [e]; exact hl.r
  obtain ⟨q1, h1, h2, h3⟩ := head
  have hr' : MP L mid en b q1 := ⟨by rw [h2.len]; exact hr.len, by rw [h2.len]; exact hr.pl, hr.v.re h2.perm, hr.l.congr fun i g1 g2 => h2.out i (by omega), hr.r.congr fun i g1 g2 => h2.out i (by omega), fun i j g1 g2 g3 g4 => by rw [h2.out i (by omega), h2.out j (by omega)]; exact hr.x i j g1 g2 g3 g4⟩
  obtain ⟨r, r1, r2, r3⟩ := sym_tail hrc hme heb hw2 hr'
  refine ⟨r, h1.trans r1, (h2.wider (Nat.le_refl _) (by omega)).trans (r2.wider (by omega) (Nat.le_refl _)), Srt.join (h3.congr fun i g1 g2 => r2.out i (by omega)) r3 fun i j g1 g2 g3 g4 => ?_⟩
  rw [r2.out i (by omega)]
  obtain ⟨j', j1, j2, j3⟩ := r2.from_ j g3 g4
  obtain ⟨i', i1, i2, i3⟩ := h2.from_ i g1 g2
  rw [j3, i3, h2.out j' (by omega)]
  exact hx i' j' i1 i2 j1 j2
theorem k8_eq (n : Nat) (rc : SymT) (a b : Int) (L : List SCall) (mid s en : Int) (q : List Int) : slices_symMergeCmpFunc_int__impl_BerthAll_1_k8 n rc a b L mid s en q = slices_symMergeCmpFunc_int__impl_BerthAll_1_k6 n rc a b L mid s en q := rfl
theorem after_rot {n : Nat} {rc : SymT} {L : List SCall} {a m s mid en b w : Nat} {p q : List Int} (hrc : RC rc L w) (h : MP L a m b p) (has : a ≤ s) (hsm : s ≤ mid) (hs2 : s ≤ m) (hme : mid ≤ en) (hen : en = mid + m - s) (hen2 : m ≤ en) (heb : en ≤ b) (hw1 : mid - a ≤ w) (hw2 : b - mid ≤ w)
    (hq : Re a b p q) (q1 : ∀ x, a ≤ x → x < s → q.getD x 0 = p.getD x 0) (q2 : ∀ x, s ≤ x → x < mid → q.getD x 0 = p.getD (m + (x - s)) 0) (q3 : ∀ x, mid ≤ x → x < en → q.getD x 0 = p.getD (s + (x - mid)) 0) (q4 : ∀ x, en ≤ x → x < b → q.getD x 0 = p.getD x 0)
    (hp : ∀ i j, a ≤ i → i < s → en ≤ j → j < b → ¬ frm L (p.getD j 0) < frm L (p.getD i 0)) (hq' : ∀ u v, m ≤ u → u < en → s ≤ v → v < m → s < mid → mid < en → frm L (p.getD u 0) < frm L (p.getD v 0)) :
    ∃ r, slices_symMergeCmpFunc_int__impl_BerthAll_1_k6 n rc (a : Int) (b : Int) L (mid : Int) (s : Int) (en : Int) q = some r ∧ Re a b p r ∧ Srt L a b r := by
  have hlen := hq.len
  have hb := h.len
  have hl : MP L a s mid q := ⟨by omega, by rw [hlen]; exact h.pl, h.v.re hq.perm, fun i j g1 g2 g3 => by rw [q1 i g1 (by omega), q1 j (by omega) g3]; exact h.l i j g1 g2 (by omega), fun i j g1 g2 g3 => by rw [q2 i g1 (by omega), q2 j (by omega) g3]; exact h.r _ _ (by omega) (by omega) (by omega), fun i j g1 g2 g3 g4 => by rw [q1 i g1 g2, q2 j g3 g4]; exact h.x _ _ g1 (by omega) (by omega) (by omega)⟩
  have hr : MP L mid en b q := ⟨by omega, by rw [hlen]; exact h.pl, h.v.re hq.perm, fun i j g1 g2 g3 => by rw [q3 i g1 (by omega), q3 j (by omega) g3]; exact h.l _ _ (by omega) (by omega) (by omega), fun i j g1 g2 g3 => by rw [q4 i g1 (by omega), q4 j (by omega) g3]; exact h.r _ _ (by omega) (by omega) (by omega), fun i j g1 g2 g3 g4 => by rw [q3 i g1 g2, q4 j g3 g4]; exact h.x _ _ (by omega) (by omega) (by omega) (by omega)⟩
  obtain ⟨r, r1, r2, r3⟩ := k6_ok (n := n) hrc has hsm hme heb hw1 hw2 hl hr fun i j g1 g2 g3 g4 => by
    by_cases ci : i < s
    · rw [q1 i g1 ci]
      by_cases cj : j < en
      · rw [q3 j g3 cj]; exact h.l _ _ g1 (by omega) (by omega)
      · rw [q4 j (by omega) g4]; exact h.no g1 (by omega) (by omega) g4 (hp i j g1 ci (by omega) g4)
    · rw [q2 i (by omega) g2]
      by_cases cj : j < en
      · rw [q3 j g3 cj]; exact .inl (hq' _ _ (by omega) (by omega) (by omega) (by omega) (by omega) (by omega))
      · rw [q4 j (by omega) g4]; exact h.r _ _ (by omega) (by omega) g4
  exact ⟨r, r1, hq.trans r2, r3⟩
theorem search33 {R : Type} {n : Nat} {rc : SymT} {L : List SCall} {a m b lo hi mid : Nat} {p : List Int} {Q : Option R → Prop} (kx : Int → Option R) (h : MP L a m b p) (hlo : (lo = mid + m - b ∧ hi = mid ∧ mid < m) ∨ (lo = a ∧ hi = m ∧ m ≤ mid)) (h1 : 2 * mid ≤ a + b) (h2 : a + b ≤ 2 * mid + 1) (ham : a < m) (hmb : m < b) (hn : 1000000000 < n)
    (hq : ∀ s : Nat, lo ≤ s → s ≤ hi → (∀ x, lo ≤ x → x < s → ¬ frm L (p.getD (mid + m - 1 - x) 0) < frm L (p.getD x 0)) → (∀ x, s ≤ x → x < hi → frm L (p.getD (mid + m - 1 - x) 0) < frm L (p.getD x 0)) → Q (kx (s : Int))) :
    Q (loopN (fun (x : Int × Int) J' => slices_symMergeCmpFunc_int__impl_BerthAll_1_L33 n rc kx (fun start265 r266 => J' (start265, r266)) (a : Int) (m : Int) (b : Int) L (mid : Int) ((mid + m : Nat) : Int) x.1 x.2 (w64 (((mid + m : Nat) : Int) - 1)) p) n ((lo : Int), (hi : Int))) := by
  have hl := h.len
  have hpl := h.pl
  have e0 : w64 (((mid + m : Nat) : Int) - 1) = ((mid + m - 1 : Nat) : Int) := by rw [w64_id (by omega) (by omega)]; omega
  rw [e0]
  obtain ⟨s, s1, s2, s3, s4, s5⟩ := bsearch (R := R) (P := fun c => !decide (frm L (p.getD (mid + m - 1 - c) 0) < frm L (p.getD c 0))) (lo := lo) (hi := hi) (n := n) (b := fun (x : Int × Int) J' => slices_symMergeCmpFunc_int__impl_BerthAll_1_L33 n rc kx (fun start265 r266 => J' (start265, r266)) (a : Int) (m : Int) (b : Int) L (mid : Int) ((mid + m : Nat) : Int) x.1 x.2 ((mid + m - 1 : Nat) : Int) p)
    (kx := kx) (fun i j J g1 g2 g3 => by
      have hc0 : (i + j) / 2 < hi := by omega
      have hc1 : lo ≤ (i + j) / 2 := by omega
      show slices_symMergeCmpFunc_int__impl_BerthAll_1_L33 n rc kx (fun start265 r266 => J (start265, r266)) (a : Int) (m : Int) (b : Int) L (mid : Int) ((mid + m : Nat) : Int) (i : Int) (j : Int) ((mid + m - 1 : Nat) : Int) p = _
      unfold slices_symMergeCmpFunc_int__impl_BerthAll_1_L33 slices_symMergeCmpFunc_int__impl_BerthAll_1_k4
      rw [decide_eq_true (show (i : Int) < (j : Int) by omega), cond_true, bd_eq, half_of (by omega) (by omega)]
      generalize (i + j) / 2 = c at hc0 hc1 ⊢
      have hc : c < p.length := by omega
      have hd : mid + m - 1 - c < p.length := by omega
      obtain ⟨r, r1, r2⟩ := cmp_call n (h.v.at_ hd) (h.v.at_ hc)
      have e : w64 ((c : Int) + 1) = ((c + 1 : Nat) : Int) := w64_succ (by omega)
      have e3 : w64 (((mid + m - 1 : Nat) : Int) - (c : Int)) = ((mid + m - 1 - c : Nat) : Int) := by rw [w64_id (by omega) (by omega)]; omega
      rw [e3, ix_nat hd, Int.toNat_natCast, chk_dec hd, ix_nat hc, Int.toNat_natCast, chk_dec hc, r1, Option.bind_some, r2, bd_eq, e]) (fun i J => by
      show slices_symMergeCmpFunc_int__impl_BerthAll_1_L33 n rc kx (fun start265 r266 => J (start265, r266)) (a : Int) (m : Int) (b : Int) L (mid : Int) ((mid + m : Nat) : Int) (i : Int) (i : Int) ((mid + m - 1 : Nat) : Int) p = _
      unfold slices_symMergeCmpFunc_int__impl_BerthAll_1_L33
      rw [decide_eq_false (by omega), cond_false]) (fun x y g1 g2 g3 g4 => by
      have t1 := h.l.le (i := x) (j := y) (by omega) g2 (by omega)
      have t2 := h.r.le (i := mid + m - 1 - y) (j := mid + m - 1 - x) (by omega) (by omega) (by omega)
      simp only [Bool.not_eq_true', decide_eq_false_iff_not] at g4 ⊢
      omega) (by omega) (by omega)
  rw [s5]
  refine hq s s1 s2 (fun x g1 g2 => ?_) fun x g1 g2 => ?_
  · have := s3 x g1 g2
    simpa using this
  · have := s4 x g1 g2
    simpa using this
theorem k9_ok {n : Nat} {rc : SymT} {L : List SCall} {a m b lo hi mid w : Nat} {p : List Int} (hrc : RC rc L w) (h : MP L a m b p) (hlo : (lo = mid + m - b ∧ hi = mid ∧ mid < m) ∨ (lo = a ∧ hi = m ∧ m ≤ mid)) (h1 : 2 * mid ≤ a + b) (h2 : a + b ≤ 2 * mid + 1) (ham : a < m) (hmb : m < b) (hw : b - a ≤ w + 1) (hn : 1000000000 < n) :
    ∃ q, slices_symMergeCmpFunc_int__impl_BerthAll_1_k9 n rc (a : Int) (m : Int) (b : Int) L (mid : Int) ((mid + m : Nat) : Int) (lo : Int) (hi : Int) p = some q ∧ Re a b p q ∧ Srt L a b q := by
  have hl := h.len
  have hpl := h.pl
  unfold slices_symMergeCmpFunc_int__impl_BerthAll_1_k9
  refine search33 (Q := fun r => ∃ q, r = some q ∧ Re a b p q ∧ Srt L a b q) _ h hlo h1 h2 ham hmb hn fun s s1 s2 s3 s4 => ?_
  have e1 : w64 (((mid + m : Nat) : Int) - (s : Int)) = ((mid + m - s : Nat) : Int) := by rw [w64_id (by omega) (by omega)]; omega
  show ∃ q, (bif (decide ((s : Int) < (m : Int))) then (bif (decide ((m : Int) < (w64 (((mid + m : Nat) : Int) - (s : Int))))) then (slices_rotateCmpFunc_int__impl_BerthAll_1 n p (s : Int) (m : Int) (w64 (((mid + m : Nat) : Int) - (s : Int))) L).bind fun r243 => slices_symMergeCmpFunc_int__impl_BerthAll_1_k6 n rc (a : Int) (b : Int) L (mid : Int) (s : Int) (w64 (((mid + m : Nat) : Int) - (s : Int))) r243 else slices_symMergeCmpFunc_int__impl_BerthAll_1_k8 n rc (a : Int) (b : Int) L (mid : Int) (s : Int) (w64 (((mid + m : Nat) : Int) - (s : Int))) p) else slices_symMergeCmpFunc_int__impl_BerthAll_1_k8 n rc (a : Int) (b : Int) L (mid : Int) (s : Int) (w64 (((mid + m : Nat) : Int) - (s : Int))) p) = some q ∧ _
  rw [e1, k8_eq]
  have hp : ∀ i j, a ≤ i → i < s → mid + m - s ≤ j → j < b → ¬ frm L (p.getD j 0) < frm L (p.getD i 0) := fun i j g1 g2 g3 g4 => by
    have t0 := s3 (s - 1) (by omega) (by omega)
    rw [show mid + m - 1 - (s - 1) = mid + m - s by omega] at t0
    have t1 := h.l.le (i := i) (j := s - 1) g1 (by omega) (by omega)
    have t2 := h.r.le (i := mid + m - s) (j := j) (by omega) g3 g4
    omega
  have hq' : ∀ u v, m ≤ u → u < mid + m - s → s ≤ v → v < m → s < mid → mid < mid + m - s → frm L (p.getD u 0) < frm L (p.getD v 0) := fun u v g1 g2 g3 g4 g5 g6 => by
    have t0 := s4 s (Nat.le_refl _) (by omega)
    have t1 := h.l.le (i := s) (j := v) (by omega) g3 g4
    have t2 := h.r.le (i := u) (j := mid + m - 1 - s) g1 (by omega) (by omega)
    omega
  by_cases c : s < m ∧ m < mid + m - s
  · obtain ⟨q, q1, q2⟩ := rotate_ok (n := n) L (a := s) (m := m) (b := mid + m - s) (p := p) c.1 c.2 (by omega) hpl hn
    rw [decide_eq_true (show (s : Int) < (m : Int) by omega), cond_true, decide_eq_true (show (m : Int) < ((mid + m - s : Nat) : Int) by omega), cond_true, q1, Option.bind_some]
    refine after_rot hrc h (by omega) (by omega) (by omega) (by omega) rfl (by omega) (by omega) (by omega) (by omega) (q2.re.wider (by omega) (by omega)) (fun x g1 g2 => q2.re.out x (by omega)) (fun x g1 g2 => ?_) (fun x g1 g2 => ?_) (fun x g1 g2 => q2.re.out x (by omega)) hp hq'
    · have := q2.fst (x - s) (by omega)
      rw [show s + (x - s) = x by omega] at this; exact this
    · have := q2.snd (x - mid) (by omega)
      rw [show s + (mid + m - s - m) + (x - mid) = x by omega] at this; exact this
  · have fin := after_rot (n := n) (q := p) (s := s) (en := mid + m - s) hrc h (by omega) (by omega) (by omega) (by omega) rfl (by omega) (by omega) (by omega) (by omega) (.refl _ _ _) (fun x g1 g2 => rfl) (fun x g1 g2 => by congr 1; omega) (fun x g1 g2 => by congr 1; omega) (fun x g1 g2 => rfl) hp hq'
    by_cases c1 : s < m
    · rw [decide_eq_true (show (s : Int) < (m : Int) by omega), cond_true, decide_eq_false (show ¬ (m : Int) < ((mid + m - s : Nat) : Int) by omega), cond_false]
      exact fin
    · rw [decide_eq_false (show ¬ (s : Int) < (m : Int) by omega), cond_false]
      exact fin
theorem k10_eq (n : Nat) (rc : SymT) (a m b : Int) (L : List SCall) (mid nn : Int) (q : List Int) : slices_symMergeCmpFunc_int__impl_BerthAll_1_k10 n rc a m b L mid nn q = slices_symMergeCmpFunc_int__impl_BerthAll_1_k9 n rc a m b L mid nn a m q := rfl
theorem sym_b {n : Nat} {rc : SymT} {L : List SCall} {a m b w : Nat} {p : List Int} (hrc : RC rc L w) (ham : a < m) (hmb : m < b) (hw : b - a ≤ w + 1) (h : MP L a m b p) (hn : 1000000000 < n) :
    ∃ q, slices_symMergeCmpFunc_int__impl_BerthAll_1_b n rc p (a : Int) (m : Int) (b : Int) L = some q ∧ Re a b p q ∧ Srt L a b q := by
  have hl := h.len
  have hpl := h.pl
  have e1 : w64 ((m : Int) - (a : Int)) = ((m - a : Nat) : Int) := by rw [w64_id (by omega) (by omega)]; omega
  have e2 : w64 ((b : Int) - (m : Int)) = ((b - m : Nat) : Int) := by rw [w64_id (by omega) (by omega)]; omega
  unfold slices_symMergeCmpFunc_int__impl_BerthAll_1_b
  by_cases c1 : m = a + 1
  · subst c1
    rw [e1, decide_eq_true (by omega), cond_true]
    exact merge_left rc h hmb hn
  rw [e1, decide_eq_false (by omega), cond_false]
  unfold slices_symMergeCmpFunc_int__impl_BerthAll_1_k12
  by_cases c2 : b = m + 1
  · subst c2
    rw [e2, decide_eq_true (by omega), cond_true]
    exact merge_right rc h ham hn
  rw [e2, decide_eq_false (by omega), cond_false]
  unfold slices_symMergeCmpFunc_int__impl_BerthAll_1_k11
  rw [bd_eq, half_of (by omega) (by omega)]
  have h1 : 2 * ((a + b) / 2) ≤ a + b := by omega
  have h2 : a + b ≤ 2 * ((a + b) / 2) + 1 := by omega
  generalize (a + b) / 2 = mid at h1 h2 ⊢
  have e3 : w64 ((mid : Int) + (m : Int)) = ((mid + m : Nat) : Int) := by rw [w64_id (by omega) (by omega)]; omega
  rw [e3]
  by_cases c3 : mid < m
  · have e4 : w64 (((mid + m : Nat) : Int) - (b : Int)) = ((mid + m - b : Nat) : Int) := by rw [w64_id (by omega) (by omega)]; omega
    rw [decide_eq_true (show (m : Int) > (mid : Int) by omega), cond_true, bd_eq, e4]
    exact k9_ok hrc h (.inl ⟨rfl, rfl, c3⟩) h1 h2 ham hmb hw hn
  · rw [decide_eq_false (show ¬ (m : Int) > (mid : Int) by omega), cond_false, k10_eq]
    exact k9_ok hrc h (.inr ⟨rfl, rfl, by omega⟩) h1 h2 ham hmb hw hn
theorem sym_r {n : Nat} {L : List SCall} (hn : 1000000000 < n) : ∀ (w d : Nat), w < d → RC (slices_symMergeCmpFunc_int__impl_BerthAll_1_r n d) L w := by
  intro w
  induction w with
  | zero => intro d hd a m b p h1 h2 h3; omega
  | succ w ih =>
    intro d hd a m b p h1 h2 h3 h
    obtain ⟨f, rfl⟩ : ∃ f, d = f + 1 := ⟨d - 1, by omega⟩
    exact sym_b (ih f (by omega)) h1 h2 h3 h hn
theorem loopN_pos {X R : Type} (b : X → (X → Option R) → Option R) {n : Nat} (hn : 1000000000 < n) (x : X) : loopN b n x = b x (loopN b (n - 1)) := by
  obtain ⟨f, rfl⟩ : ∃ f, n = f + 1 := ⟨n - 1, by omega⟩
  rw [loopN_succ]; rfl
theorem loopN_pos1 {X R : Type} (b : X → (X → Option R) → Option R) {n : Nat} (hn : 1000000000 < n) (x : X) : loopN b (n - 1) x = b x (loopN b (n - 2)) := by
  obtain ⟨f, rfl⟩ : ∃ f, n = f + 2 := ⟨n - 2, by omega⟩
  show loopN b (f + 1) x = b x (loopN b f)
  rw [loopN_succ]
theorem stL2_go {R : Type} {n : Nat} (kx : Int → List Int → Option R) (J : Int → Int → List Int → Option R) {m : Int} {L : List SCall} {p : List Int} (h : 20 ≤ m) : slices_stableCmpFunc_int__impl_BerthAll_1_L2 n kx J m L 20 0 20 p = (slices_insertionSortCmpFunc_int__impl_BerthAll_1 n p 0 20 L).bind fun r => J 20 40 r := by
  unfold slices_stableCmpFunc_int__impl_BerthAll_1_L2
  rw [decide_eq_true h, cond_true]; rfl
theorem stL2_end {R : Type} {n : Nat} (kx : Int → List Int → Option R) (J : Int → Int → List Int → Option R) {m a b : Int} {L : List SCall} {p : List Int} (h : ¬ b ≤ m) : slices_stableCmpFunc_int__impl_BerthAll_1_L2 n kx J m L 20 a b p = kx a p := by
  unfold slices_stableCmpFunc_int__impl_BerthAll_1_L2
  rw [decide_eq_false h, cond_false]
theorem stL7_end {R : Type} {n : Nat} (kx : List Int → Option R) (J : Int → List Int → Option R) {m b : Int} {L : List SCall} {p : List Int} (h : ¬ b < m) : slices_stableCmpFunc_int__impl_BerthAll_1_L7 n kx J m L b p = kx p := by
  unfold slices_stableCmpFunc_int__impl_BerthAll_1_L7
  rw [decide_eq_false h, cond_false]
theorem stL9_end {R : Type} {n : Nat} (kx : Int → List Int → Option R) (J : Int → Int → List Int → Option R) {m a b : Int} {L : List SCall} {p : List Int} (h : ¬ b ≤ m) : slices_stableCmpFunc_int__impl_BerthAll_1_L9 n kx J m L 20 a b p = kx a p := by
  unfold slices_stableCmpFunc_int__impl_BerthAll_1_L9
  rw [decide_eq_false h, cond_false]
theorem stL7_go {R : Type} {n : Nat} (kx : List Int → Option R) (J : Int → List Int → Option R) {m : Int} {L : List SCall} {p : List Int} (h : 20 < m) (h2 : m < 40) (hn : 1000000000 < n) : slices_stableCmpFunc_int__impl_BerthAll_1_L7 n kx J m L 20 p = (slices_symMergeCmpFunc_int__impl_BerthAll_1 n p 0 20 m L).bind fun r => J 40 r := by
  unfold slices_stableCmpFunc_int__impl_BerthAll_1_L7
  rw [decide_eq_true h, cond_true]
  unfold slices_stableCmpFunc_int__impl_BerthAll_1_k0
  rw [bd_eq, show w64 ((2 : Int) * 20) = 40 from rfl, loopN_pos _ hn]
  dsimp only
  rw [stL9_end _ _ (by omega), bd_eq, show w64 ((0 : Int) + 20) = 20 from rfl, decide_eq_true h, cond_true]
  simp only [bd_eq]
  rfl
/-- The whole sort of at most twenty-four. -/
theorem stable_ok {n : Nat} {L : List SCall} {p : List Int} (hp : p.length ≤ 24) (hv : Vld L p) (hx : ∀ x y, x < y → y < p.length → p.getD x 0 < p.getD y 0) (hn : 1000000000 < n) :
    ∃ q, slices_SortStableFunc_int_int__impl_BerthAll_1 n p L = some q ∧ q.Perm p ∧ Srt L 0 p.length q := by
  unfold slices_SortStableFunc_int_int__impl_BerthAll_1 slices_stableCmpFunc_int__impl_BerthAll_1
  rw [loopN_pos _ hn]
  dsimp only
  by_cases c : p.length < 20
  · obtain ⟨q, q1, q2, q3⟩ := insertion_ok (n := n) (L := L) (a := 0) (b := p.length) (p0 := p) (by omega) (by omega) (by omega) hv (fun x y _ g2 g3 => hx x y g2 g3) hn
    have q1' : slices_insertionSortCmpFunc_int__impl_BerthAll_1 n p 0 (p.length : Int) L = some q := q1
    refine ⟨q, ?_, q2.perm, q3⟩
    rw [stL2_end _ _ (by omega), q1', Option.bind_some, loopN_pos _ hn]
    dsimp only
    rw [stL7_end _ _ (by omega), Option.bind_some]
  · obtain ⟨q1, a1, a2, a3⟩ := insertion_ok (n := n) (L := L) (a := 0) (b := 20) (p0 := p) (by omega) (by omega) (by omega) hv (fun x y _ g2 g3 => hx x y g2 (by omega)) hn
    have a1' : slices_insertionSortCmpFunc_int__impl_BerthAll_1 n p 0 20 L = some q1 := a1
    have hl1 := a2.len
    obtain ⟨q2, b1, b2, b3⟩ := insertion_ok (n := n) (L := L) (a := 20) (b := p.length) (p0 := q1) (by omega) (by omega) (by omega) (hv.re a2.perm) (fun x y g1 g2 g3 => by rw [a2.out x (by omega), a2.out y (by omega)]; exact hx x y g2 g3) hn
    have b1' : slices_insertionSortCmpFunc_int__impl_BerthAll_1 n q1 20 (p.length : Int) L = some q2 := b1
    have hl2 := b2.len
    have a3' : Srt L 0 20 q2 := a3.congr fun i g1 g2 => b2.out i (by omega)
    rw [stL2_go _ _ (by omega), a1', Option.bind_some, loopN_pos1 _ hn]
    dsimp only
    rw [stL2_end _ _ (by omega), b1', Option.bind_some, loopN_pos _ hn]
    dsimp only
    by_cases c2 : p.length = 20
    · refine ⟨q2, ?_, b2.perm.trans a2.perm, by rw [c2]; exact a3'⟩
      rw [stL7_end _ _ (by omega), Option.bind_some]
    · have hm : MP L 0 20 p.length q2 := ⟨by omega, by omega, (hv.re a2.perm).re b2.perm, a3', b3, fun i j g1 g2 g3 g4 => by
        obtain ⟨i', i1, i2, i3⟩ := a2.from_ i g1 g2
        obtain ⟨j', j1, j2, j3⟩ := b2.from_ j g3 g4
        rw [b2.out i (by omega), i3, j3, a2.out j' (by omega)]
        exact hx i' j' (by omega) j2⟩
      obtain ⟨q, d1, d2, d3⟩ := sym_r (n := n) (L := L) hn p.length n (by omega) 0 20 p.length q2 (by omega) (by omega) (by omega) hm
      have d1' : slices_symMergeCmpFunc_int__impl_BerthAll_1 n q2 0 20 (p.length : Int) L = some q := d1
      refine ⟨q, ?_, d2.perm.trans (b2.perm.trans a2.perm), d3⟩
      rw [stL7_go _ _ (by omega) (by omega) hn, d1', Option.bind_some, loopN_pos1 _ hn]
      dsimp only
      rw [stL7_end _ _ (by omega), Option.bind_some]
end Go.Sm
end

section
set_option linter.unusedSimpArgs false
set_option linter.deprecated false
set_option linter.unusedSectionVars false
set_option linter.unusedVariables false
set_option linter.unusedSimpArgs false
namespace Go.Sm
attribute [local irreducible] bd chk ix loopN
/-! ### Calls -/
def meetC (a b : SCall) : Bool := decide (a.At ≥ 0) && (decide (b.At ≥ 0) && (decide (a.From < b.To) && (decide (b.From < a.To) && (decide (a.At < w64 (b.At + b.Long)) && decide (b.At < w64 (a.At + a.Long))))))
theorem meetC_comm (a b : SCall) : meetC a b = meetC b a := by
  unfold meetC
  rw [Bool.eq_iff_iff]
  simp only [Bool.and_eq_true, decide_eq_true_eq]
  constructor <;> (rintro ⟨h1, h2, h3, h4, h5, h6⟩; exact ⟨h2, h1, h4, h3, h6, h5⟩)
theorem spec_meet (n : Nat) (a b : SCall) : spec_l17Meet n a b = some (meetC a b) := by
  unfold spec_l17Meet meetC; simp only [bif_sf]
theorem impl_meet (n : Nat) (a b : SCall) : impl_shares n a b = some (meetC a b) := by
  unfold impl_shares meetC; simp only [bif_sf]
def OkC (long : Int) (c : SCall) : Prop := 1 ≤ c.Id ∧ c.Id ≤ 1000000 ∧ 1 ≤ c.Long ∧ c.Long ≤ 1000 ∧ 0 ≤ c.From ∧ c.From ≤ 100000000 ∧ 0 ≤ c.To ∧ c.To ≤ 100000000 ∧ c.From < c.To ∧ -1 ≤ c.At ∧ c.At ≤ 1000 ∧ (0 ≤ c.At → c.At + c.Long ≤ long)
def OkAt (long : Int) (L : List SCall) (i : Nat) : Prop := OkC long (L.getD i dSCall) ∧ (0 < i → (L.getD (i - 1) dSCall).Id < (L.getD i dSCall).Id)
instance (long : Int) (c : SCall) : Decidable (OkC long c) := by unfold OkC; infer_instance
instance (long : Int) (L : List SCall) (i : Nat) : Decidable (OkAt long L i) := by unfold OkAt; infer_instance
def callsOk (long : Int) (L : List SCall) : Bool := decide (1 ≤ long ∧ long ≤ 1000) && (decide (L.length ≤ 24) && (List.range L.length).all fun i => decide (OkAt long L i))
theorem spec_in (n : Nat) (x a b : Int) : spec_l1In n x a b = some (decide (x ≥ a) && decide (x ≤ b)) := by unfold spec_l1In; simp only [bif_sf]
theorem impl_in_ok (n : Nat) (x a b : Int) : impl_in n x a b = some (decide (x ≥ a) && decide (x ≤ b)) := by unfold impl_in; simp only [bif_sf]
theorem spec_minute (n : Nat) (x : Int) : spec_l1Minute n x = some (decide (x ≥ 0) && decide (x ≤ 100000000)) := by unfold spec_l1Minute; rw [spec_in]; rfl
theorem impl_minute (n : Nat) (x : Int) : impl_minuteOk n x = some (decide (x ≥ 0) && decide (x ≤ 100000000)) := by unfold impl_minuteOk; rw [impl_in_ok]; rfl
theorem impl_idr (n : Nat) (x : Int) : impl_idRight n x = some (decide (x ≥ 1) && decide (x ≤ 1000000)) := by unfold impl_idRight; rw [impl_in_ok]; rfl
theorem bif_notand {α : Type} {p q : Prop} [Decidable p] [Decidable q] {x y : α} : (bif (!(decide p && decide q)) then x else y) = if p ∧ q then y else x := by
  by_cases h1 : p <;> by_cases h2 : q <;> simp [h1, h2]
theorem bif_and_p {α : Type} {p q : Prop} [Decidable p] [Decidable q] {x y : α} : (bif (decide p && decide q) then x else y) = if p ∧ q then x else y := by
  by_cases h1 : p <;> by_cases h2 : q <;> simp [h1, h2]
theorem bif_not_p {α : Type} {p : Prop} [Decidable p] {x y : α} : (bif (!decide p) then x else y) = if p then y else x := by
  by_cases h1 : p <;> simp [h1]
theorem ite_a1 {α : Type} {p q : Prop} [Decidable p] [Decidable q] {x y : α} : (if p then (if q then x else y) else y) = if p ∧ q then x else y := by
  by_cases h1 : p <;> by_cases h2 : q <;> simp [h1, h2]
theorem ite_a2 {α : Type} {p q : Prop} [Decidable p] [Decidable q] {x y : α} : (if p then y else (if q then x else y)) = if ¬ p ∧ q then x else y := by
  by_cases h1 : p <;> by_cases h2 : q <;> simp [h1, h2]
theorem ite_a3 {α : Type} {p q : Prop} [Decidable p] [Decidable q] {x y : α} : (if p then (if q then y else x) else y) = if p ∧ ¬ q then x else y := by
  by_cases h1 : p <;> by_cases h2 : q <;> simp [h1, h2]
theorem ite_iff {α : Type} {p q : Prop} [Decidable p] [Decidable q] {x y : α} (h : p ↔ q) : (if p then x else y) = if q then x else y := by
  by_cases h1 : p
  · rw [if_pos h1, if_pos (h.1 h1)]
  · rw [if_neg h1, if_neg (mt h.2 h1)]
theorem spec_CallsOk_ok {n : Nat} (long : Int) (L : List SCall) (hl : L.length ≤ 100000000) (hn : 1000000000 < n) : spec_CallsOk n long L = some (callsOk long L) := by
  unfold spec_CallsOk callsOk
  rw [spec_in, Option.bind_some, bif_notand]
  by_cases h1 : long ≥ 1 ∧ long ≤ 1000
  · rw [if_pos h1, decide_eq_true (show 1 ≤ long ∧ long ≤ 1000 from h1), Bool.true_and]
    by_cases h2 : L.length ≤ 24
    · rw [decide_eq_false (by omega), cond_false, decide_eq_true h2, Bool.true_and]
      rw [loop_all (len := L.length) (p := fun i => decide (OkAt long L i)) (no := some false) (yes := some true) (by omega) (fun i J hi _ => ?_) (fun J _ => ?_) (by omega)]
      · cases (List.range L.length).all fun i => decide (OkAt long L i) <;> rfl
      · have e : w64 ((i : Int) + 1) = ((i + 1 : Nat) : Int) := w64_succ (by omega)
        unfold spec_CallsOk_L4
        rw [decide_eq_true (by omega), cond_true]
        unfold spec_CallsOk_k0
        simp only [spec_in, spec_minute, Option.bind_some, bif_notand, bif_dec, bd_eq, e]
        rw [ix_nat hi, Int.toNat_natCast]
        have key : ∀ c c' : SCall, (c = L.getD i dSCall) → (c' = L.getD (i - 1) dSCall) → (OkAt long L i ↔ (OkC long c ∧ (0 < i → c'.Id < c.Id))) := fun c c' e1 e2 => by rw [e1, e2]; rfl
        by_cases h0 : i = 0
        · subst h0
          simp only [show ¬ (((0 : Nat) : Int) > 0) by omega, if_false]
          have key' := key _ _ rfl rfl
          generalize L.getD 0 dSCall = c at key' ⊢
          unfold OkC at key'
          simp only [ite_a1, ite_a2, ite_a3]
          exact ite_iff (by
            by_cases hA : 0 ≤ c.At ∧ c.At ≤ 1000 ∧ 1 ≤ c.Long ∧ c.Long ≤ 1000
            · rw [w64_id (x := c.At + c.Long) (by omega) (by omega), key']; omega
            · rw [key']; generalize w64 (c.At + c.Long) = z; omega)
        · have hi1 : i - 1 < L.length := by omega
          have e2 : w64 ((i : Int) - 1) = ((i - 1 : Nat) : Int) := by rw [w64_id (by omega) (by omega)]; omega
          rw [e2, ix_nat hi1, Int.toNat_natCast]
          have key' := key _ _ rfl rfl
          generalize L.getD i dSCall = c at key' ⊢
          generalize L.getD (i - 1) dSCall = c' at key' ⊢
          unfold OkC at key'
          rw [if_pos (show (i : Int) > 0 by omega)]
          simp only [ite_a1, ite_a2, ite_a3]
          exact ite_iff (by
            by_cases hA : 0 ≤ c.At ∧ c.At ≤ 1000 ∧ 1 ≤ c.Long ∧ c.Long ≤ 1000
            · rw [w64_id (x := c.At + c.Long) (by omega) (by omega), key']; omega
            · rw [key']; generalize w64 (c.At + c.Long) = z; omega)
      · unfold spec_CallsOk_L4
        rw [decide_eq_false (by omega), cond_false]
    · rw [decide_eq_true (by omega), cond_true, decide_eq_false h2]; rfl
  · rw [if_neg h1, decide_eq_false (show ¬ (1 ≤ long ∧ long ≤ 1000) from h1)]; rfl
theorem ite_a4 {α : Type} {p q : Prop} [Decidable p] [Decidable q] {x y : α} : (if p then x else (if q then x else y)) = if p ∨ q then x else y := by
  by_cases h1 : p <;> by_cases h2 : q <;> simp [h1, h2]
theorem some_and {p q : Prop} [Decidable p] [Decidable q] : (some (decide p && decide q) : Option Bool) = if p ∧ q then some true else some false := by
  by_cases h1 : p <;> by_cases h2 : q <;> simp [h1, h2]
theorem some_dec {p : Prop} [Decidable p] : (some (decide p) : Option Bool) = if p then some true else some false := by
  by_cases h1 : p <;> simp [h1]
theorem impl_callOk_ok (n : Nat) {long : Int} (h : 1 ≤ long ∧ long ≤ 1000) (c : SCall) : impl_callOk n long c = some (decide (OkC long c)) := by
  unfold impl_callOk
  rw [some_dec]
  simp only [impl_idr, impl_in_ok, impl_minute, Option.bind_some, bif_and_p, bif_dec]
  simp only [some_and]
  simp only [ite_a1, ite_a4]
  refine ite_iff ?_
  unfold OkC
  by_cases hA : 1 ≤ c.Long ∧ c.Long ≤ 1000
  · rw [w64_id (x := long - c.Long) (by omega) (by omega)]; omega
  · generalize w64 (long - c.Long) = z
    omega
theorem impl_CallsOk_ok {n : Nat} (long : Int) (L : List SCall) (hl : L.length ≤ 100000000) (hn : 1000000000 < n) : impl_CallsOk n long L = some (callsOk long L) := by
  unfold impl_CallsOk callsOk
  rw [impl_in_ok, Option.bind_some, bif_notand]
  by_cases h1 : long ≥ 1 ∧ long ≤ 1000
  · rw [if_pos h1, decide_eq_true (show 1 ≤ long ∧ long ≤ 1000 from h1), Bool.true_and]
    by_cases h2 : L.length ≤ 24
    · rw [decide_eq_false (by omega), cond_false, decide_eq_true h2, Bool.true_and]
      rw [loop_all (len := L.length) (p := fun i => decide (OkAt long L i)) (no := some false) (yes := some true) (by omega) (fun i J hi _ => ?_) (fun J _ => ?_) (by omega)]
      · cases (List.range L.length).all fun i => decide (OkAt long L i) <;> rfl
      · have e : w64 ((i : Int) + 1) = ((i + 1 : Nat) : Int) := w64_succ (by omega)
        unfold impl_CallsOk_L4
        rw [decide_eq_true (by omega), cond_true]
        unfold impl_CallsOk_k0
        rw [ix_nat hi, bd_eq, Int.toNat_natCast, impl_callOk_ok n h1, Option.bind_some, bif_not_p, e]
        simp only [bif_dec, bd_eq]
        have key : OkAt long L i ↔ (OkC long (L.getD i dSCall) ∧ (0 < i → (L.getD (i - 1) dSCall).Id < (L.getD i dSCall).Id)) := Iff.rfl
        by_cases h0 : i = 0
        · rw [if_neg (show ¬ (i : Int) > 0 by omega)]
          exact ite_iff (by rw [key]; exact ⟨fun h => ⟨h, fun hh => absurd hh (by omega)⟩, fun h => h.1⟩)
        · have hi1 : i - 1 < L.length := by omega
          have e2 : w64 ((i : Int) - 1) = ((i - 1 : Nat) : Int) := by rw [w64_id (by omega) (by omega)]; omega
          rw [if_pos (show (i : Int) > 0 by omega), e2, ix_nat hi1, Int.toNat_natCast]
          simp only [ite_a3]
          exact ite_iff (by rw [key]; exact ⟨fun h => ⟨h.1, fun _ => by omega⟩, fun h => ⟨h.1, by have := h.2 (by omega); omega⟩⟩)
      · unfold impl_CallsOk_L4
        rw [decide_eq_false (by omega), cond_false]
    · rw [decide_eq_true (by omega), cond_true, decide_eq_false h2]; rfl
  · rw [if_neg h1, decide_eq_false (show ¬ (1 ≤ long ∧ long ≤ 1000) from h1)]; rfl
def noMeet (L : List SCall) : Bool := (List.range L.length).all fun i => (List.range i).all fun k => !meetC (L.getD i dSCall) (L.getD k dSCall)
def clearC (long : Int) (L : List SCall) : Bool := callsOk long L && noMeet L
theorem spec_Clear17_ok {n : Nat} (long : Int) (L : List SCall) (hl : L.length ≤ 100000000) (hn : 1000000000 < n) : spec_Clear17 n long L = some (clearC long L) := by
  unfold spec_Clear17
  rw [loop_all (len := L.length) (p := fun i => (List.range i).all fun k => !meetC (L.getD i dSCall) (L.getD k dSCall)) (no := some false) (yes := some (callsOk long L)) (by omega) (fun i J hi _ => ?_) (fun J _ => ?_) (by omega)]
  · unfold clearC noMeet
    cases (List.range L.length).all fun i => (List.range i).all fun k => !meetC (L.getD i dSCall) (L.getD k dSCall) <;> simp
  · have e : w64 ((i : Int) + 1) = ((i + 1 : Nat) : Int) := w64_succ (by omega)
    unfold spec_Clear17_L2
    rw [decide_eq_true (by omega), cond_true, e]
    rw [loop_all (len := i) (p := fun k => !meetC (L.getD i dSCall) (L.getD k dSCall)) (no := some false) (yes := J ((i + 1 : Nat) : Int)) (by omega) (fun k J' hk _ => ?_) (fun J' _ => ?_) (by omega)]
    · have e2 : w64 ((k : Int) + 1) = ((k + 1 : Nat) : Int) := w64_succ (by omega)
      have hk' : k < L.length := by omega
      unfold spec_Clear17_L5
      rw [decide_eq_true (by omega), cond_true, ix_nat hi, bd_eq, ix_nat hk', bd_eq, Int.toNat_natCast, Int.toNat_natCast, spec_meet, Option.bind_some, e2]
      cases meetC (L.getD i dSCall) (L.getD k dSCall) <;> rfl
    · unfold spec_Clear17_L5
      rw [decide_eq_false (by omega), cond_false]
  · unfold spec_Clear17_L2
    rw [decide_eq_false (by omega), cond_false, spec_CallsOk_ok long L hl hn]; rfl
theorem impl_any1 {n : Nat} (L : List SCall) (c : SCall) (hl : L.length ≤ 100000000) (hn : 1000000000 < n) : slices_ContainsFunc_impl_Call_impl_Call__impl_Clear17_1 n L c = some ((List.range L.length).any fun k => meetC (L.getD k dSCall) c) := by
  unfold slices_ContainsFunc_impl_Call_impl_Call__impl_Clear17_1 slices_IndexFunc_impl_Call_impl_Call__impl_Clear17_1
  rw [loop_idx (len := L.length) (p := fun k => meetC (L.getD k dSCall) c) (by omega) (fun k J hk _ => ?_) (fun J _ => ?_) (by omega), Option.bind_some, idxOf_ge]
  · have e2 : w64 ((k : Int) + 1) = ((k + 1 : Nat) : Int) := w64_succ (by omega)
    unfold slices_IndexFunc_impl_Call_impl_Call__impl_Clear17_1_L2 impl_Clear17_1
    rw [decide_eq_true (by omega), cond_true, ix_nat hk, bd_eq, Int.toNat_natCast, impl_meet, Option.bind_some, Option.bind_some, e2]
  · unfold slices_IndexFunc_impl_Call_impl_Call__impl_Clear17_1_L2
    rw [decide_eq_false (by omega), cond_false]
theorem impl_Clear17_ok {n : Nat} (long : Int) (L : List SCall) (hl : L.length ≤ 100000000) (hn : 1000000000 < n) : impl_Clear17 n long L = some (clearC long L) := by
  unfold impl_Clear17
  rw [impl_CallsOk_ok long L hl hn, Option.bind_some]
  unfold clearC
  cases callsOk long L with
  | false => rfl
  | true =>
    rw [Bool.not_true, cond_false, Bool.true_and]
    rw [loop_all (len := L.length) (p := fun i => (List.range i).all fun k => !meetC (L.getD i dSCall) (L.getD k dSCall)) (no := some false) (yes := some true) (by omega) (fun i J hi _ => ?_) (fun J _ => ?_) (by omega)]
    · unfold noMeet
      cases (List.range L.length).all fun i => (List.range i).all fun k => !meetC (L.getD i dSCall) (L.getD k dSCall) <;> rfl
    · have e : w64 ((i : Int) + 1) = ((i + 1 : Nat) : Int) := w64_succ (by omega)
      have ht : (L.take i).length = i := by rw [List.length_take]; omega
      have hg : ((List.range (L.take i).length).any fun k => meetC ((L.take i).getD k dSCall) (L.getD i dSCall)) = !((List.range i).all fun k => !meetC (L.getD i dSCall) (L.getD k dSCall)) := by
        rw [ht, List.not_all_eq_any_not]
        refine any_congr_lt fun k hk => ?_
        rw [Bool.not_not, meetC_comm]
        congr 1
        rw [getD_eq (by omega), getD_eq (by omega), List.getElem_take]
      unfold impl_Clear17_L4
      rw [decide_eq_true (by omega), cond_true, ix_nat hi, bd_eq, chk_dec (by omega), chk_dec (by omega), Int.toNat_natCast, impl_any1 _ _ (by omega) hn, Option.bind_some, hg, e]
      cases (List.range i).all fun k => !meetC (L.getD i dSCall) (L.getD k dSCall) <;> rfl
    · unfold impl_Clear17_L4
      rw [decide_eq_false (by omega), cond_false]
theorem loop_findS {S R X : Type} {enc : Nat → S → X} {b : X → (X → Option R) → Option R} {len : Nat} {p : Nat → Bool} {I : Nat → S → Prop} {yes : Nat → Option R} {no : Option R}
    (hstep : ∀ (k : Nat) (s : S) (J : X → Option R), k < len → I k s → ∃ s', I (k + 1) s' ∧ b (enc k s) J = bif p k then yes k else J (enc (k + 1) s')) (hfin : ∀ s J, I len s → b (enc len s) J = no) {n : Nat} (hn : len < n) {s0 : S} (h0 : I 0 s0) :
    loopN b n (enc 0 s0) = ((List.range len).find? p).elim no yes := by
  have key : ∀ m (k : Nat) (s : S) n, k + m = len → m < n → I k s → (∀ j, j < k → p j = false) → loopN b n (enc k s) = ((List.range len).find? p).elim no yes := by
    intro m
    induction m with
    | zero =>
      intro k s n hk hn hi hp
      have hk : k = len := by omega
      subst hk
      cases n with
      | zero => omega
      | succ n => rw [loopN_succ, hfin s _ hi, find_range_none hp]; rfl
    | succ m ih =>
      intro k s n hk hn hi hp
      cases n with
      | zero => omega
      | succ n =>
        rw [loopN_succ]
        obtain ⟨s', h1, h2⟩ := hstep k s (loopN b n) (by omega) hi
        rw [h2]
        cases hpk : p k with
        | true => rw [find_range_some (by omega) hpk hp]; rfl
        | false =>
          refine ih (k + 1) s' n (by omega) (by omega) h1 fun j hj => ?_
          by_cases e : j = k
          · rw [e]; exact hpk
          · exact hp j (by omega)
  exact key len 0 s0 n (by omega) hn h0 fun j hj => absurd hj (Nat.not_lt_zero _)
/-! ### A berth -/
def wAt (c : SCall) (at_ : Int) : SCall := ⟨c.Id, c.Long, c.From, c.To, at_⟩
def freeP (L : List SCall) (i : Nat) (at_ : Nat) : Bool := (List.range L.length).all fun k => decide (k = i) || !meetC (wAt (L.getD i dSCall) (at_ : Int)) (L.getD k dSCall)
def tryAt (long : Int) (L : List SCall) (i : Nat) : Option Nat := (List.range (long - (L.getD i dSCall).Long + 1).toNat).find? (freeP L i)
theorem clear_ok {long : Int} {L : List SCall} (h : clearC long L = true) : 1 ≤ long ∧ long ≤ 1000 ∧ L.length ≤ 24 ∧ ∀ i, i < L.length → OkAt long L i := by
  unfold clearC callsOk at h
  rw [Bool.and_eq_true, Bool.and_eq_true, Bool.and_eq_true, decide_eq_true_eq, decide_eq_true_eq] at h
  refine ⟨h.1.1.1, h.1.1.2, h.1.2.1, fun i hi => ?_⟩
  have := List.all_eq_true.1 h.1.2.2 i (List.mem_range.2 hi)
  simpa using this
theorem ids_lt {long : Int} {L : List SCall} (h : ∀ i, i < L.length → OkAt long L i) : ∀ d i, i + d + 1 < L.length → (L.getD i dSCall).Id < (L.getD (i + d + 1) dSCall).Id := by
  intro d
  induction d with
  | zero => intro i hi; have := (h (i + 1) (by omega)).2 (by omega); simpa using this
  | succ d ih =>
    intro i hi
    have h1 := ih i (by omega)
    have h2 := (h (i + d + 2) (by omega)).2 (by omega)
    rw [show i + d + 2 - 1 = i + d + 1 by omega] at h2
    rw [show i + (d + 1) + 1 = i + d + 2 by omega]
    omega
theorem ids_uni {long : Int} {L : List SCall} (h : ∀ i, i < L.length → OkAt long L i) {i j : Nat} (hi : i < L.length) (hj : j < L.length) (he : (L.getD i dSCall).Id = (L.getD j dSCall).Id) : i = j := by
  by_cases c1 : i < j
  · have := ids_lt h (j - i - 1) i (by omega)
    rw [show i + (j - i - 1) + 1 = j by omega] at this; omega
  · by_cases c2 : j < i
    · have := ids_lt h (i - j - 1) j (by omega)
      rw [show j + (i - j - 1) + 1 = i by omega] at this; omega
    · omega
theorem spec_free {R : Type} {n : Nat} {Q : Option R → Prop} (kx : Bool → Option R) {long : Int} {L : List SCall} {id : Int} {i at_ : Nat} (hl : L.length ≤ 100000000) (hn : 1000000000 < n)
    (hq : Q (kx (freeP L i at_))) : Q (loopN (fun (x : Bool × Int) J' => spec_Berth_L14 n kx (fun free42 k43 => J' (free42, k43)) long L id (i : Int) (at_ : Int) x.1 x.2 (wAt (L.getD i dSCall) (at_ : Int))) n (true, (0 : Int))) := by
  refine loop_runS (enc := fun k (s : Bool) => (s, k)) (I := fun k s => s = (List.range k).all fun k => decide (k = i) || !meetC (wAt (L.getD i dSCall) (at_ : Int)) (L.getD k dSCall)) (Q := Q) (len := L.length) (fun k s J hk hI => ⟨_, rfl, ?_⟩) (fun s J hI => ?_) (by omega) rfl
  · have e : w64 ((k : Int) + 1) = ((k + 1 : Nat) : Int) := w64_succ (by omega)
    rw [all_range_succ, ← hI]
    show spec_Berth_L14 n kx (fun free42 k43 => J (free42, k43)) long L id (i : Int) (at_ : Int) s (k : Int) (wAt (L.getD i dSCall) (at_ : Int)) = _
    unfold spec_Berth_L14 spec_Berth_k0
    rw [decide_eq_true (by omega), cond_true, ix_nat hk, bd_eq, Int.toNat_natCast, spec_meet, Option.bind_some, e]
    cases s with
    | false => rfl
    | true =>
      rw [cond_true, Bool.true_and]
      by_cases hki : k = i
      · rw [decide_eq_true (by omega), cond_true, decide_eq_true hki]; rfl
      · rw [decide_eq_false (by omega), cond_false, decide_eq_false hki]; rfl
  · show Q (spec_Berth_L14 n kx (fun free42 k43 => J (free42, k43)) long L id (i : Int) (at_ : Int) s (L.length : Int) (wAt (L.getD i dSCall) (at_ : Int)))
    unfold spec_Berth_L14
    rw [decide_eq_false (by omega), cond_false, hI]
    exact hq
theorem spec_try {R : Type} {n : Nat} (kx : Option R) (kxr : Int → Bool → Option R) {long : Int} {L : List SCall} {id : Int} {i : Nat} (hc : clearC long L = true) (hi : i < L.length) (hn : 1000000000 < n) :
    loopN (fun (x : Int × SCall) J' => spec_Berth_L9 n kx kxr (fun at52 x53 => J' (at52, x53)) long L id (i : Int) x.1 x.2) n ((0 : Int), L.getD i dSCall) = (tryAt long L i).elim kx fun at_ => kxr (at_ : Int) true := by
  obtain ⟨c1, c2, c3, c4⟩ := clear_ok hc
  have hO := (c4 i hi).1
  unfold OkC at hO
  refine loop_findS (enc := fun (k : Nat) (s : SCall) => ((k : Int), s)) (len := (long - (L.getD i dSCall).Long + 1).toNat) (p := freeP L i) (I := fun _ s => ∀ v : Int, wAt s v = wAt (L.getD i dSCall) v) (yes := fun at_ => kxr (at_ : Int) true) (no := kx) (fun k s J hk hI => ?_) (fun s J hI => ?_) (by omega) (fun v => rfl)
  · have hs : s.Long = (L.getD i dSCall).Long := by have := congrArg SCall.Long (hI 0); exact this
    refine ⟨wAt (L.getD i dSCall) (k : Int), fun v => rfl, ?_⟩
    show spec_Berth_L9 n kx kxr (fun at52 x53 => J (at52, x53)) long L id (i : Int) (k : Int) s = _
    have e : w64 ((k : Int) + 1) = ((k + 1 : Nat) : Int) := w64_succ (by omega)
    unfold spec_Berth_L9 spec_Berth_k1
    rw [hs, w64_id (by omega) (by omega), decide_eq_true (by omega), cond_true]
    have hw : (⟨s.Id, (L.getD i dSCall).Long, s.From, s.To, (k : Int)⟩ : SCall) = wAt (L.getD i dSCall) (k : Int) := by rw [← hs]; exact hI (k : Int)
    rw [hw]
    refine spec_free (Q := fun r => r = _) _ (by omega) hn ?_
    cases freeP L i k with
    | true => rfl
    | false =>
      show J (w64 ((k : Int) + 1), wAt (L.getD i dSCall) (k : Int)) = _
      rw [e]; rfl
  · have hs : s.Long = (L.getD i dSCall).Long := by have := congrArg SCall.Long (hI 0); exact this
    show spec_Berth_L9 n kx kxr (fun at52 x53 => J (at52, x53)) long L id (i : Int) (((long - (L.getD i dSCall).Long + 1).toNat : Nat) : Int) s = _
    unfold spec_Berth_L9
    rw [hs, w64_id (by omega) (by omega), decide_eq_false (by omega), cond_false]
theorem spec_Berth_ok {n : Nat} {long : Int} {L : List SCall} (id : Int) (hl : L.length ≤ 100000000) (hn : 1000000000 < n) :
    spec_Berth n long L id = bif clearC long L then ((List.range L.length).find? fun i => decide ((L.getD i dSCall).Id = id) && (tryAt long L i).isSome).elim (some (-1, false)) (fun i => (tryAt long L i).elim (some (-1, false)) fun at_ => some ((at_ : Int), true)) else some (-1, false) := by
  unfold spec_Berth
  rw [spec_Clear17_ok long L hl hn, Option.bind_some]
  cases hc : clearC long L with
  | false => rfl
  | true =>
    rw [Bool.not_true, cond_false, cond_true]
    refine loop_findS (enc := fun (k : Nat) (_ : Unit) => (k : Int)) (s0 := ()) (len := L.length) (I := fun _ _ => True) (fun i _ J hi _ => ⟨(), trivial, ?_⟩) (fun _ J _ => ?_) (by omega) trivial
    · have e : w64 ((i : Int) + 1) = ((i + 1 : Nat) : Int) := w64_succ (by omega)
      unfold spec_Berth_L4 spec_Berth_k2
      rw [decide_eq_true (by omega), cond_true, ix_nat hi, bd_eq, Int.toNat_natCast, e]
      by_cases hid : (L.getD i dSCall).Id = id
      · rw [decide_eq_true hid, Bool.not_true, cond_false, Bool.true_and, spec_try (id := id) _ _ hc hi hn]
        cases tryAt long L i <;> rfl
      · rw [decide_eq_false hid, Bool.not_false, cond_true, Bool.false_and, cond_false]
    · unfold spec_Berth_L4
      rw [decide_eq_false (by omega), cond_false]
theorem impl_any2 {n : Nat} (L : List SCall) (id : Int) (c : SCall) (hl : L.length ≤ 100000000) (hn : 1000000000 < n) : slices_ContainsFunc_impl_Call_impl_Call__impl_Berth_2 n L id c = some ((List.range L.length).any fun k => !decide ((L.getD k dSCall).Id = id) && meetC (L.getD k dSCall) c) := by
  unfold slices_ContainsFunc_impl_Call_impl_Call__impl_Berth_2 slices_IndexFunc_impl_Call_impl_Call__impl_Berth_2
  rw [loop_idx (len := L.length) (p := fun k => !decide ((L.getD k dSCall).Id = id) && meetC (L.getD k dSCall) c) (by omega) (fun k J hk _ => ?_) (fun J _ => ?_) (by omega), Option.bind_some, idxOf_ge]
  · have e2 : w64 ((k : Int) + 1) = ((k + 1 : Nat) : Int) := w64_succ (by omega)
    unfold slices_IndexFunc_impl_Call_impl_Call__impl_Berth_2_L2 impl_Berth_2
    rw [decide_eq_true (by omega), cond_true, ix_nat hk, bd_eq, Int.toNat_natCast, impl_meet, Option.bind_some, bif_sf, Option.bind_some, e2]
  · unfold slices_IndexFunc_impl_Call_impl_Call__impl_Berth_2_L2
    rw [decide_eq_false (by omega), cond_false]
theorem impl_idx1 {n : Nat} (L : List SCall) (id : Int) (hl : L.length ≤ 100000000) (hn : 1000000000 < n) : slices_IndexFunc_impl_Call_impl_Call__impl_Berth_1 n L id = some (idxOf (fun k => decide ((L.getD k dSCall).Id = id)) L.length) := by
  unfold slices_IndexFunc_impl_Call_impl_Call__impl_Berth_1
  refine loop_idx (len := L.length) (by omega) (fun k J hk _ => ?_) (fun J _ => ?_) (by omega)
  · have e2 : w64 ((k : Int) + 1) = ((k + 1 : Nat) : Int) := w64_succ (by omega)
    unfold slices_IndexFunc_impl_Call_impl_Call__impl_Berth_1_L2 impl_Berth_1
    rw [decide_eq_true (by omega), cond_true, ix_nat hk, bd_eq, Int.toNat_natCast, Option.bind_some, e2]
  · unfold slices_IndexFunc_impl_Call_impl_Call__impl_Berth_1_L2
    rw [decide_eq_false (by omega), cond_false]
theorem impl_try {n : Nat} {long : Int} {L : List SCall} {i : Nat} (hc : clearC long L = true) (hi : i < L.length) (hn : 1000000000 < n) :
    loopN (fun (x : SCall) J' => impl_Berth_L6 n (some ((-1 : Int), false)) (fun t25 t26 => some (t25, t26)) J' long L (L.getD i dSCall).Id x) n (wAt (L.getD i dSCall) 0) = (tryAt long L i).elim (some (-1, false)) fun at_ => some ((at_ : Int), true) := by
  obtain ⟨c1, c2, c3, c4⟩ := clear_ok hc
  have hO := (c4 i hi).1
  unfold OkC at hO
  refine loop_findS (enc := fun (k : Nat) (_ : Unit) => wAt (L.getD i dSCall) (k : Int)) (s0 := ()) (len := (long - (L.getD i dSCall).Long + 1).toNat) (p := freeP L i) (I := fun _ _ => True) (fun k _ J hk _ => ⟨(), trivial, ?_⟩) (fun _ J _ => ?_) (by omega) trivial
  · have e : w64 ((k : Int) + 1) = ((k + 1 : Nat) : Int) := w64_succ (by omega)
    unfold impl_Berth_L6
    show bd (w64 ((k : Int) + (L.getD i dSCall).Long)) _ = _
    rw [w64_id (by omega) (by omega), bd_eq, decide_eq_true (by omega), cond_true, impl_any2 _ _ _ (by omega) hn, Option.bind_some]
    have hf : (!(List.range L.length).any fun j => !decide ((L.getD j dSCall).Id = (L.getD i dSCall).Id) && meetC (L.getD j dSCall) (wAt (L.getD i dSCall) (k : Int))) = freeP L i k := by
      unfold freeP
      rw [List.not_any_eq_all_not]
      refine all_congr_lt fun j hj => ?_
      rw [meetC_comm (L.getD j dSCall)]
      by_cases hji : j = i
      · rw [hji, decide_eq_true rfl, decide_eq_true rfl]; rfl
      · rw [decide_eq_false hji, decide_eq_false fun h => hji (ids_uni c4 hj hi h)]; simp
    rw [hf]
    cases freeP L i k with
    | true => rfl
    | false =>
      show (bd (w64 ((k : Int) + 1)) fun v20 => J (wAt (L.getD i dSCall) v20)) = J (wAt (L.getD i dSCall) ((k + 1 : Nat) : Int))
      rw [e, bd_eq]
  · unfold impl_Berth_L6
    show bd (w64 ((((long - (L.getD i dSCall).Long + 1).toNat : Nat) : Int) + (L.getD i dSCall).Long)) _ = _
    rw [w64_id (by omega) (by omega), bd_eq, decide_eq_false (by omega), cond_false]
theorem berth_both {n : Nat} {long : Int} {L : List SCall} (id : Int) (hl : L.length ≤ 100000000) (hn : 1000000000 < n) : ∃ r, spec_Berth n long L id = some r ∧ impl_Berth n long L id = some r := by
  rw [spec_Berth_ok id hl hn]
  unfold impl_Berth
  rw [impl_idx1 L id hl hn, Option.bind_some, impl_Clear17_ok long L hl hn, Option.bind_some]
  cases hc : clearC long L with
  | false => exact ⟨_, rfl, rfl⟩
  | true =>
    obtain ⟨c1, c2, c3, c4⟩ := clear_ok hc
    rw [Bool.not_true, cond_false, cond_true]
    rcases idxOf_spec (fun k => decide ((L.getD k dSCall).Id = id)) L.length with ⟨h1, h2⟩ | ⟨k, h1, h2, h3, h4⟩
    · rw [h1, find_range_none fun j hj => by rw [h2 j hj]; rfl]
      exact ⟨_, rfl, rfl⟩
    · rw [h1]
      have h3 : (L.getD k dSCall).Id = id := by simpa using h3
      have hne : ∀ j, j < L.length → j ≠ k → decide ((L.getD j dSCall).Id = id) = false := fun j hj hjk => decide_eq_false fun h => hjk (ids_uni c4 hj h2 (h.trans h3.symm))
      have hi : impl_Berth_k0 n long L (k : Int) (decide ((k : Int) < 0)) id = (tryAt long L k).elim (some (-1, false)) fun at_ => some ((at_ : Int), true) := by
        unfold impl_Berth_k0
        rw [decide_eq_false (by omega), cond_false, ix_nat h2, bd_eq, Int.toNat_natCast, ← h3]
        exact impl_try hc h2 hn
      rw [hi]
      cases ht : tryAt long L k with
      | none =>
        rw [find_range_none fun j hj => by
          by_cases hjk : j = k
          · rw [hjk, ht, Bool.and_comm]; rfl
          · rw [hne j hj hjk]; rfl]
        exact ⟨_, rfl, rfl⟩
      | some at_ =>
        rw [find_range_some (k := k) h2 (by rw [decide_eq_true h3, ht]; rfl) fun j hj => by rw [hne j (by omega) (by omega)]; rfl]
        refine ⟨_, ?_, rfl⟩
        show (tryAt long L k).elim _ _ = _
        rw [ht]; rfl
end Go.Sm
end

section
set_option linter.unusedSimpArgs false
set_option linter.deprecated false
set_option linter.unusedSectionVars false
set_option linter.unusedVariables false
set_option linter.unusedSimpArgs false
namespace Go.Sm
attribute [local irreducible] bd chk ix loopN
/-! ### All that wait, in their order -/
def ordN (L : List SCall) (k : Nat) : List Nat := (List.range k).filter fun i => decide ((L.getD i dSCall).At < 0)
def ordK (L : List SCall) (k : Nat) : List Int := (ordN L k).map Int.ofNat
theorem ordK_succ (L : List SCall) (k : Nat) : ordK L (k + 1) = if (L.getD k dSCall).At < 0 then ordK L k ++ [(k : Int)] else ordK L k := by
  unfold ordK ordN
  rw [List.range_succ, List.filter_append, List.map_append]
  by_cases h : (L.getD k dSCall).At < 0
  · have hf : [k].filter (fun i => decide ((L.getD i dSCall).At < 0)) = [k] := List.filter_cons_of_pos (p := fun i => decide ((L.getD i dSCall).At < 0)) (decide_eq_true h)
    rw [if_pos h, hf]; rfl
  · have hf : [k].filter (fun i => decide ((L.getD i dSCall).At < 0)) = [] := List.filter_cons_of_neg (p := fun i => decide ((L.getD i dSCall).At < 0)) (by show ¬ decide _ = true; rw [decide_eq_false h]; decide)
    rw [if_neg h, hf, List.map_nil, List.append_nil]
theorem ordK_len (L : List SCall) (k : Nat) : (ordK L k).length ≤ k := by
  unfold ordK ordN
  rw [List.length_map]
  exact Nat.le_trans (List.length_filter_le _ _) (by rw [List.length_range]; exact Nat.le_refl _)
theorem ordK_mem {L : List SCall} {k : Nat} {x : Int} : x ∈ ordK L k ↔ ∃ i : Nat, i < k ∧ x = (i : Int) ∧ (L.getD i dSCall).At < 0 := by
  unfold ordK ordN
  simp only [List.mem_map, List.mem_filter, List.mem_range, decide_eq_true_eq]
  constructor
  · rintro ⟨i, ⟨h1, h2⟩, rfl⟩; exact ⟨i, h1, rfl, h2⟩
  · rintro ⟨i, h1, rfl, h2⟩; exact ⟨i, ⟨h1, h2⟩, rfl⟩
theorem ordK_asc (L : List SCall) (k : Nat) : ∀ x y, x < y → y < (ordK L k).length → (ordK L k).getD x 0 < (ordK L k).getD y 0 := by
  intro x y h1 h2
  have hp : (ordK L k).Pairwise (· < ·) := by
    unfold ordK ordN
    rw [List.pairwise_map]
    exact (List.Pairwise.filter _ List.pairwise_lt_range).imp fun h => by simpa using h
  rw [getD_eq (by omega), getD_eq h2]
  exact List.pairwise_iff_getElem.1 hp x y (by omega) h2 h1
/-- The order: sorted, and the calls that wait, each once. -/
structure Ord (L : List SCall) (q : List Int) : Prop where
  len : q.length ≤ L.length
  srt : Srt L 0 q.length q
  mem : ∀ x : Int, x ∈ q ↔ ∃ i : Nat, i < L.length ∧ x = (i : Int) ∧ (L.getD i dSCall).At < 0
theorem Ord.at_ {L : List SCall} {q : List Int} (h : Ord L q) {t : Nat} (ht : t < q.length) : ∃ i : Nat, i < L.length ∧ q.getD t 0 = (i : Int) ∧ (L.getD i dSCall).At < 0 := (h.mem _).1 (getD_mem ht)
theorem mem_getD {q : List Int} {x : Int} (h : x ∈ q) : ∃ u, u < q.length ∧ q.getD u 0 = x := by
  obtain ⟨u, hu, he⟩ := List.getElem_of_mem h
  exact ⟨u, hu, by rw [getD_eq hu]; exact he⟩
theorem mem_take_getD {q : List Int} {x : Int} {t : Nat} : x ∈ q.take t ↔ ∃ u, u < t ∧ u < q.length ∧ q.getD u 0 = x := by
  constructor
  · intro h
    obtain ⟨u, hu, he⟩ := mem_getD h
    have hu' : u < t ∧ u < q.length := by rw [List.length_take] at hu; omega
    refine ⟨u, hu'.1, hu'.2, ?_⟩
    rw [getD_eq hu, List.getElem_take] at he
    rw [getD_eq hu'.2]; exact he
  · rintro ⟨u, h1, h2, rfl⟩
    have : u < (q.take t).length := by rw [List.length_take]; omega
    rw [getD_eq h2, ← List.getElem_take (h := this)]
    exact List.getElem_mem this
/-- As far as t calls are asked. -/
structure At (L : List SCall) (q : List Int) (t : Nat) (out : List SCall) (asked : List Bool) : Prop where
  len : out.length = L.length
  frm : ∀ i, (out.getD i dSCall).From = (L.getD i dSCall).From
  alen : asked.length = L.length
  as : ∀ i, i < L.length → (asked.getD i false = true ↔ (i : Int) ∈ q.take t)
def Cand (L : List SCall) (q : List Int) (t : Nat) (i : Nat) : Prop := (L.getD i dSCall).At < 0 ∧ ¬ (i : Int) ∈ q.take t
theorem frm_nat (L : List SCall) (i : Nat) : frm L (i : Int) = (L.getD i dSCall).From := rfl
/-! ### Clear, and it stays so -/
structure Clr (long : Int) (L : List SCall) : Prop where
  l1 : 1 ≤ long
  l2 : long ≤ 1000
  len : L.length ≤ 24
  ok : ∀ i, i < L.length → OkAt long L i
  nm : ∀ i j, i < L.length → j < L.length → i ≠ j → meetC (L.getD i dSCall) (L.getD j dSCall) = false
theorem b_not {b : Bool} (h : (!b) = true) : b = false := by
  cases b with
  | false => rfl
  | true => cases h
theorem clr_of {long : Int} {L : List SCall} (h : clearC long L = true) : Clr long L := by
  obtain ⟨c1, c2, c3, c4⟩ := clear_ok h
  have hn : noMeet L = true := by unfold clearC at h; rw [Bool.and_eq_true] at h; exact h.2
  have lt : ∀ i k, i < L.length → k < i → meetC (L.getD i dSCall) (L.getD k dSCall) = false := fun i k hi hk => b_not (List.all_eq_true.1 (List.all_eq_true.1 hn i (List.mem_range.2 hi)) k (List.mem_range.2 hk))
  exact ⟨c1, c2, c3, c4, fun i j hi hj hij => by
    by_cases c : j < i
    · exact lt i j hi c
    · rw [meetC_comm]; exact lt j i hj (by omega)⟩
theorem Clr.to {long : Int} {L : List SCall} (h : Clr long L) : clearC long L = true := by
  unfold clearC callsOk noMeet
  rw [decide_eq_true (show 1 ≤ long ∧ long ≤ 1000 from ⟨h.l1, h.l2⟩), decide_eq_true h.len, Bool.true_and, Bool.true_and, Bool.and_eq_true]
  exact ⟨List.all_eq_true.2 fun i hi => decide_eq_true (h.ok i (List.mem_range.1 hi)), List.all_eq_true.2 fun i hi => List.all_eq_true.2 fun k hk => by
    have h1 := List.mem_range.1 hi
    have h2 := List.mem_range.1 hk
    rw [h.nm i k h1 (by omega) (by omega)]; rfl⟩
theorem meet_neg {a b : SCall} (h : b.At < 0) : meetC a b = false := by
  unfold meetC
  rw [decide_eq_false (show ¬ b.At ≥ 0 by omega), Bool.false_and, Bool.and_false]
theorem freeP_true {L : List SCall} {i at_ : Nat} : freeP L i at_ = true ↔ ∀ k, k < L.length → k ≠ i → meetC (wAt (L.getD i dSCall) (at_ : Int)) (L.getD k dSCall) = false := by
  unfold freeP
  rw [List.all_eq_true]
  constructor
  · intro h k hk hki
    have := h k (List.mem_range.2 hk)
    rw [decide_eq_false hki, Bool.false_or] at this
    exact b_not this
  · intro h k hk
    by_cases hki : k = i
    · rw [decide_eq_true hki]; rfl
    · rw [h k (List.mem_range.1 hk) hki, decide_eq_false hki]; rfl
theorem try_some {long : Int} {L : List SCall} {i at_ : Nat} (h : tryAt long L i = some at_) : at_ < (long - (L.getD i dSCall).Long + 1).toNat ∧ freeP L i at_ = true := by
  unfold tryAt at h
  rcases find_range (freeP L i) (long - (L.getD i dSCall).Long + 1).toNat with ⟨h1, _⟩ | ⟨k, h1, h2, h3, h4⟩
  · rw [h1] at h; cases h
  · rw [h1] at h; cases h; exact ⟨h2, h3⟩
theorem try_none {long : Int} {L : List SCall} {i : Nat} : tryAt long L i = none ↔ ∀ at_, at_ < (long - (L.getD i dSCall).Long + 1).toNat → freeP L i at_ = false := by
  unfold tryAt
  rcases find_range (freeP L i) (long - (L.getD i dSCall).Long + 1).toNat with ⟨h1, h2⟩ | ⟨k, h1, h2, h3, h4⟩
  · rw [h1]; exact ⟨fun _ => h2, fun _ => rfl⟩
  · rw [h1]; exact ⟨(fun h => nomatch h), (fun h => by rw [h k h2] at h3; cases h3)⟩
theorem try_le {long : Int} {L : List SCall} {i a : Nat} (hf : freeP L i a = true) (ha : a < (long - (L.getD i dSCall).Long + 1).toNat) : ∃ b, tryAt long L i = some b ∧ b ≤ a := by
  unfold tryAt
  rcases find_range (freeP L i) (long - (L.getD i dSCall).Long + 1).toNat with ⟨h1, h2⟩ | ⟨k, h1, h2, h3, h4⟩
  · rw [h2 a ha] at hf; cases hf
  · refine ⟨k, h1, ?_⟩
    by_cases c : a < k
    · rw [h4 a c] at hf; cases hf
    · omega
theorem Clr.place {long : Int} {L : List SCall} {i at_ : Nat} (h : Clr long L) (hi : i < L.length) (ht : tryAt long L i = some at_) : Clr long (L.set i (wAt (L.getD i dSCall) (at_ : Int))) := by
  obtain ⟨t1, t2⟩ := try_some ht
  have t2 := freeP_true.1 t2
  have gi : (L.set i (wAt (L.getD i dSCall) (at_ : Int))).getD i dSCall = wAt (L.getD i dSCall) (at_ : Int) := getD_set hi
  have gn : ∀ j, j ≠ i → (L.set i (wAt (L.getD i dSCall) (at_ : Int))).getD j dSCall = L.getD j dSCall := fun j hj => getD_set_ne hj
  have gid : ∀ j, ((L.set i (wAt (L.getD i dSCall) (at_ : Int))).getD j dSCall).Id = (L.getD j dSCall).Id := fun j => by
    by_cases e : j = i
    · rw [e, gi]; rfl
    · rw [gn j e]
  have gl : (L.set i (wAt (L.getD i dSCall) (at_ : Int))).length = L.length := List.length_set
  have l1 := h.l1
  have l2 := h.l2
  refine ⟨h.l1, h.l2, by rw [gl]; exact h.len, fun j hj => ⟨?_, fun hj0 => ?_⟩, fun j k hj hk hjk => ?_⟩
  · rw [gl] at hj
    by_cases e : j = i
    · rw [e, gi]
      have := (h.ok i hi).1
      unfold OkC at this ⊢
      unfold wAt
      dsimp only
      omega
    · rw [gn j e]; exact (h.ok j hj).1
  · rw [gl] at hj
    rw [gid, gid]; exact (h.ok j hj).2 hj0
  · rw [gl] at hj hk
    by_cases e : j = i
    · have e2 : k ≠ i := by omega
      rw [e, gi, gn k e2]; exact t2 k hk e2
    · by_cases e2 : k = i
      · rw [e2, gi, gn j e, meetC_comm]; exact t2 j hj e
      · rw [gn j e, gn k e2]; exact h.nm j k hj hk hjk
theorem push_at {L : List SCall} {c : SCall} : (L ++ [c]).getD L.length dSCall = c := by
  rw [getD_eq (by simp), List.getElem_append_right (Nat.le_refl _)]; simp
theorem push_lt {L : List SCall} {c : SCall} {j : Nat} (h : j < L.length) : (L ++ [c]).getD j dSCall = L.getD j dSCall := by
  rw [getD_eq (by simp; omega), getD_eq h, List.getElem_append_left h]
theorem Clr.push {long : Int} {L : List SCall} {c : SCall} (h : Clr long L) (hl : L.length < 24) (hc : OkC long c) (hid : ∀ j, j < L.length → (L.getD j dSCall).Id < c.Id) (hat : c.At < 0) : Clr long (L ++ [c]) := by
  have gl : (L ++ [c]).length = L.length + 1 := by simp
  refine ⟨h.l1, h.l2, by omega, fun j hj => ?_, fun j k hj hk hjk => ?_⟩
  · rw [gl] at hj
    by_cases e : j = L.length
    · subst e
      refine ⟨by rw [push_at]; exact hc, fun hj0 => ?_⟩
      rw [push_at, push_lt (by omega)]; exact hid _ (by omega)
    · refine ⟨by rw [push_lt (by omega)]; exact (h.ok j (by omega)).1, fun hj0 => ?_⟩
      rw [push_lt (by omega), push_lt (by omega)]; exact (h.ok j (by omega)).2 hj0
  · rw [gl] at hj hk
    by_cases e : j = L.length
    · rw [e, push_at, meetC_comm]; exact meet_neg hat
    · by_cases e2 : k = L.length
      · rw [e2, push_at]; exact meet_neg hat
      · rw [push_lt (by omega), push_lt (by omega)]; exact h.nm j k (by omega) (by omega) hjk
theorem berth_at {n : Nat} {long : Int} {L : List SCall} {i : Nat} (h : Clr long L) (hi : i < L.length) (hn : 1000000000 < n) :
    impl_Berth n long L (L.getD i dSCall).Id = some ((tryAt long L i).elim ((-1 : Int), false) fun at_ => ((at_ : Int), true)) ∧ spec_Berth n long L (L.getD i dSCall).Id = some ((tryAt long L i).elim ((-1 : Int), false) fun at_ => ((at_ : Int), true)) := by
  have hlen := h.len
  have hs : spec_Berth n long L (L.getD i dSCall).Id = some ((tryAt long L i).elim ((-1 : Int), false) fun at_ => ((at_ : Int), true)) := by
    rw [spec_Berth_ok _ (by omega) hn, h.to, cond_true]
    have hne : ∀ j, j < L.length → j ≠ i → decide ((L.getD j dSCall).Id = (L.getD i dSCall).Id) = false := fun j hj hji => decide_eq_false fun he => hji (ids_uni h.ok hj hi he)
    cases ht : tryAt long L i with
    | none =>
      rw [find_range_none fun j hj => by
        by_cases hji : j = i
        · rw [hji, ht, Bool.and_comm]; rfl
        · rw [hne j hj hji]; rfl]
      rfl
    | some at_ =>
      rw [find_range_some (k := i) hi (by rw [decide_eq_true rfl, ht]; rfl) fun j hj => by rw [hne j (by omega) (by omega)]; rfl]
      show (tryAt long L i).elim _ _ = _
      rw [ht]; rfl
  obtain ⟨r, r1, r2⟩ := berth_both (n := n) (long := long) (L := L) (L.getD i dSCall).Id (by omega) hn
  rw [hs] at r1
  exact ⟨by rw [r2, ← r1], hs⟩
/-! ### BerthAll of a clear quay -/
structure BSt (long : Int) (L : List SCall) (q : List Int) (t : Nat) (out : List SCall) : Prop where
  clr : Clr long out
  len : out.length = L.length
  eqv : ∀ i, wAt (out.getD i dSCall) 0 = wAt (L.getD i dSCall) 0
  keep : ∀ i, i < L.length → 0 ≤ (L.getD i dSCall).At → out.getD i dSCall = L.getD i dSCall
  done : ∀ i, i < L.length → (L.getD i dSCall).At < 0 → (i : Int) ∈ q.take t → 0 ≤ (out.getD i dSCall).At ∨ tryAt long out i = none
  todo : ∀ i, i < L.length → (L.getD i dSCall).At < 0 → ¬ (i : Int) ∈ q.take t → out.getD i dSCall = L.getD i dSCall
theorem run_impl {n : Nat} {long : Int} {L : List SCall} {q : List Int} (ho : Ord L q) (hl : L.length ≤ 24) (hn : 1000000000 < n) : ∀ (m t fI : Nat) (out : List SCall), t + m = q.length → m < fI → BSt long L q t out →
    ∃ r : List SCall, loopN (fun (x : Int × List SCall) J' => impl_BerthAll_L13 n (fun c31 => some (c31, true)) (fun t32 c33 => J' (t32, c33)) long (q.length : Int) x.1 x.2 q) fI ((t : Int), out) = some (r, true) ∧ BSt long L q q.length r := by
  intro m
  induction m with
  | zero =>
    intro t fI out h1 h3 h
    obtain ⟨gI, rfl⟩ : ∃ g, fI = g + 1 := ⟨fI - 1, by omega⟩
    have : t = q.length := by omega
    subst this
    refine ⟨out, ?_, h⟩
    rw [loopN_succ]
    unfold impl_BerthAll_L13
    rw [decide_eq_false (by omega), cond_false]
  | succ m ih =>
    intro t fI out h1 h3 h
    obtain ⟨gI, rfl⟩ : ∃ g, fI = g + 1 := ⟨fI - 1, by omega⟩
    have htl : t < q.length := by omega
    obtain ⟨i, i1, i2, i3⟩ := ho.at_ htl
    have hlen := h.len
    have hqlen := ho.len
    have hio : i < out.length := by omega
    have e : w64 ((t : Int) + 1) = ((t + 1 : Nat) : Int) := w64_succ (by omega)
    have b2 := (berth_at (n := n) h.clr hio hn).1
    have hni : ¬ (i : Int) ∈ q.take t := fun hm => by
      obtain ⟨u, u1, u2, u3⟩ := mem_take_getD.1 hm
      have := ho.srt u t (by omega) u1 htl
      rw [u3, i2] at this
      exact ltC_irr this
    have hmem : ∀ j : Nat, (j : Int) ∈ q.take (t + 1) ↔ ((j : Int) ∈ q.take t ∨ j = i) := fun j => by
      rw [take_succ_getD (d := 0) htl, List.mem_append, List.mem_singleton, i2]
      exact ⟨fun hh => hh.imp id fun hh => by omega, fun hh => hh.imp id fun hh => by omega⟩
    have hI : loopN (fun (x : Int × List SCall) J' => impl_BerthAll_L13 n (fun c31 => some (c31, true)) (fun t32 c33 => J' (t32, c33)) long (q.length : Int) x.1 x.2 q) (gI + 1) ((t : Int), out) = loopN (fun (x : Int × List SCall) J' => impl_BerthAll_L13 n (fun c31 => some (c31, true)) (fun t32 c33 => J' (t32, c33)) long (q.length : Int) x.1 x.2 q) gI (((t + 1 : Nat) : Int), (tryAt long out i).elim out fun at_ => out.set i (wAt (out.getD i dSCall) (at_ : Int))) := by
      rw [loopN_succ]
      generalize loopN (fun (x : Int × List SCall) J' => impl_BerthAll_L13 n (fun c31 => some (c31, true)) (fun t32 c33 => J' (t32, c33)) long (q.length : Int) x.1 x.2 q) gI = J
      unfold impl_BerthAll_L13 impl_BerthAll_k1
      rw [decide_eq_true (by omega), cond_true, ix_nat htl, Int.toNat_natCast, chk_dec htl, i2, ix_nat hio, Int.toNat_natCast, chk_dec hio, b2, Option.bind_some, e]
      cases tryAt long out i with
      | none => rfl
      | some at_ =>
        show (bif true then _ else _) = _
        rw [cond_true, ix_nat hio, chk_dec hio, bd_eq, bd_eq]
        rfl
    rw [hI]
    cases ht : tryAt long out i with
    | none =>
      refine ih (t + 1) gI _ (by omega) (by omega) ⟨h.clr, h.len, h.eqv, h.keep, fun j hj hja hjm => ?_, fun j hj hja hjm => h.todo j hj hja fun hh => hjm ((hmem j).2 (.inl hh))⟩
      rcases (hmem j).1 hjm with hh | hh
      · exact h.done j hj hja hh
      · rw [hh]; exact .inr ht
    | some at_ =>
      have gi : (out.set i (wAt (out.getD i dSCall) (at_ : Int))).getD i dSCall = wAt (out.getD i dSCall) (at_ : Int) := getD_set hio
      have gn : ∀ j, j ≠ i → (out.set i (wAt (out.getD i dSCall) (at_ : Int))).getD j dSCall = out.getD j dSCall := fun j hj => getD_set_ne hj
      have gl : (out.set i (wAt (out.getD i dSCall) (at_ : Int))).length = out.length := List.length_set
      have hia : (out.getD i dSCall).At < 0 := by rw [h.todo i i1 i3 hni]; exact i3
      refine ih (t + 1) gI _ (by omega) (by omega) ⟨h.clr.place hio ht, gl.trans h.len, fun j => ?_, fun j hj hja => ?_, fun j hj hja hjm => ?_, fun j hj hja hjm => ?_⟩
      · show wAt ((out.set i (wAt (out.getD i dSCall) (at_ : Int))).getD j dSCall) 0 = _
        by_cases hji : j = i
        · rw [hji, gi]; exact h.eqv i
        · rw [gn j hji]; exact h.eqv j
      · show (out.set i (wAt (out.getD i dSCall) (at_ : Int))).getD j dSCall = _
        have hji : j ≠ i := fun hh => by rw [hh] at hja; omega
        rw [gn j hji]; exact h.keep j hj hja
      · show 0 ≤ ((out.set i (wAt (out.getD i dSCall) (at_ : Int))).getD j dSCall).At ∨ tryAt long (out.set i (wAt (out.getD i dSCall) (at_ : Int))) j = none
        by_cases hji : j = i
        · rw [hji, gi]; exact .inl (Int.natCast_nonneg _)
        · have hjt : (j : Int) ∈ q.take t := ((hmem j).1 hjm).resolve_right hji
          rcases h.done j hj hja hjt with hh | hh
          · rw [gn j hji]; exact .inl hh
          · refine .inr (try_none.2 fun a ha => ?_)
            rw [gn j hji] at ha
            have hf := try_none.1 hh a ha
            cases hc : freeP (out.set i (wAt (out.getD i dSCall) (at_ : Int))) j a with
            | false => rfl
            | true =>
              have hc := freeP_true.1 hc
              rw [gn j hji, gl] at hc
              have : freeP out j a = true := freeP_true.2 fun k hk hkj => by
                by_cases hki : k = i
                · rw [hki]; exact meet_neg hia
                · have := hc k hk hkj
                  rw [gn k hki] at this; exact this
              rw [hf] at this; cases this
      · show (out.set i (wAt (out.getD i dSCall) (at_ : Int))).getD j dSCall = _
        have hji : j ≠ i := fun hh => hjm ((hmem j).2 (.inr hh))
        rw [gn j hji]; exact h.todo j hj hja fun hh => hjm ((hmem j).2 (.inl hh))
theorem berthAll_clr {n : Nat} {long : Int} {L : List SCall} (h : Clr long L) (hn : 1000000000 < n) : ∃ r, impl_BerthAll n long L = some (r, true) ∧ Clr long r ∧ r.length = L.length ∧ (∀ i, wAt (r.getD i dSCall) 0 = wAt (L.getD i dSCall) 0) ∧ (∀ i, i < L.length → 0 ≤ (L.getD i dSCall).At → r.getD i dSCall = L.getD i dSCall) ∧ ∀ i, i < L.length → (r.getD i dSCall).At < 0 → tryAt long r i = none := by
  have c3 := h.len
  unfold impl_BerthAll
  rw [impl_Clear17_ok long L (by omega) hn, Option.bind_some, h.to, Bool.not_true, cond_false]
  obtain ⟨q, q1, q2, q3⟩ := stable_ok (n := n) (L := L) (p := ordK L L.length) (Nat.le_trans (ordK_len L _) c3) (fun x hx => by
    obtain ⟨i, i1, i2, _⟩ := ordK_mem.1 hx
    omega) (ordK_asc L L.length) hn
  have ho : Ord L q := ⟨by rw [q2.length_eq]; exact ordK_len L _, by rw [q2.length_eq]; exact q3, fun x => by rw [q2.mem_iff]; exact ordK_mem⟩
  have hql := ho.len
  obtain ⟨r, r1, r2⟩ := run_impl (long := long) ho c3 hn q.length 0 n L (by omega) (by omega) ⟨h, rfl, fun _ => rfl, fun _ _ _ => rfl, fun i hi hia hm => absurd hm (by rw [List.take_zero]; exact List.not_mem_nil), fun _ _ _ _ => rfl⟩
  refine ⟨r, ?_, r2.clr, r2.len, r2.eqv, r2.keep, fun i hi hia => ?_⟩
  · unfold impl_BerthAll_k2 impl_own_impl_Call
    rw [chk_dec (by omega), chk_dec (by omega), chk_dec (by omega), Option.bind_some]
    refine loop_runS (enc := fun k (s : List Int) => (k, s)) (I := fun k s => s = ordK L k) (Q := fun x => x = some (r, true)) (len := L.length) (fun k s J hk hI => ⟨_, rfl, ?_⟩) (fun s J hI => ?_) (by omega) rfl
    · have e : w64 ((k : Int) + 1) = ((k + 1 : Nat) : Int) := w64_succ (by omega)
      have hs : s.length ≤ k := by rw [hI]; exact ordK_len L k
      rw [ordK_succ, ← hI]
      show impl_BerthAll_L6 n _ (fun t34 order35 => J (t34, order35)) long (L.length : Int) (k : Int) L s = _
      unfold impl_BerthAll_L6 impl_BerthAll_k0
      rw [decide_eq_true (by omega), cond_true, ix_nat hk, Int.toNat_natCast, chk_dec hk, bd_eq, e, bif_dec]
      by_cases hat : (L.getD k dSCall).At < 0
      · rw [if_pos hat, if_pos hat, chk_dec (by rw [List.length_append]; simp; omega)]
      · rw [if_neg hat, if_neg hat]
    · show impl_BerthAll_L6 n _ (fun t34 order35 => J (t34, order35)) long (L.length : Int) (L.length : Int) L s = _
      unfold impl_BerthAll_L6
      rw [decide_eq_false (by omega), cond_false]
      show (slices_SortStableFunc_int_int__impl_BerthAll_1 n s L).bind _ = some (r, true)
      rw [hI, q1, Option.bind_some]
      exact r1
  · by_cases hLa : (L.getD i dSCall).At < 0
    · have hm : (i : Int) ∈ q.take q.length := by rw [List.take_length]; exact (ho.mem _).2 ⟨i, hi, rfl, hLa⟩
      rcases r2.done i hi hLa hm with hh | hh
      · omega
      · exact hh
    · rw [r2.keep i hi (by omega)] at hia; omega
end Go.Sm
end

section
set_option linter.unusedSimpArgs false
set_option linter.deprecated false
set_option linter.unusedSectionVars false
set_option linter.unusedVariables false
set_option linter.unusedSimpArgs false
namespace Go.Sm
attribute [local irreducible] bd chk ix loopN
/-! ### A drawn quay -/
theorem draw_tail {R : Type} {n : Nat} (kx : List SCall → Sl1Cur → Option R) (J : Int → Int → Sl1Cur → List SCall → Option R) {long id i ln fr : Int} {p : Sl1Cur} {out : List SCall} (hp : CurOk p) (h : Clr long out) (hl : out.length ≤ 20) (hid : ∀ j, j < out.length → (out.getD j dSCall).Id < id) (h1 : 1 ≤ id ∧ id ≤ 1000) (h2 : 1 ≤ ln ∧ ln ≤ 1000) (h3 : 0 ≤ fr ∧ fr ≤ 1000) (hn : 1000000000 < n) :
    ∃ p' out', spec_l17DrawCalls_k2 n kx J true long id i p out id ln fr = J id (w64 (i - 1)) p' out' ∧ CurOk p' ∧ Clr long out' ∧ out'.length = out.length + 1 ∧ ∀ j, j < out.length + 1 → (out'.getD j dSCall).Id ≤ id := by
  obtain ⟨v, c1, b1, ⟨b2, b3⟩, b4⟩ := below_ok (n := n) hp (m := 40) (by omega)
  have e1 : w64 (fr + 1) = fr + 1 := w64_id (by omega) (by omega)
  have e2 : w64 (fr + 1 + v) = fr + 1 + v := w64_id (by omega) (by omega)
  unfold spec_l17DrawCalls_k2
  rw [b1, Option.bind_some]
  dsimp only
  rw [e1, e2, bd_eq, bd_eq, chk_dec (by rw [List.length_append]; simp; omega), cond_true]
  obtain ⟨o, c2, o1, o2⟩ := onceB_ok (n := n) b4 (m := 2) (by omega)
  rw [o1, Option.bind_some]
  have hc : Clr long (out ++ [(⟨id, ln, fr, fr + 1 + v, -1⟩ : SCall)]) := h.push (by omega) (by unfold OkC; dsimp only; omega) hid (by show (-1 : Int) < 0; omega)
  have hle : ∀ j, j < out.length + 1 → ((out ++ [(⟨id, ln, fr, fr + 1 + v, -1⟩ : SCall)]).getD j dSCall).Id ≤ id := fun j hj => by
    by_cases e : j = out.length
    · rw [e, push_at]; exact Int.le_refl _
    · rw [push_lt (by omega)]; have := hid j (by omega); omega
  have gl : (out ++ [(⟨id, ln, fr, fr + 1 + v, -1⟩ : SCall)]).length = out.length + 1 := by simp
  unfold spec_l17DrawCalls_k0
  cases o with
  | false => exact ⟨c2, _, rfl, o2, hc, gl, hle⟩
  | true =>
    rw [cond_true]
    have hb := (berth_at (n := n) (i := out.length) hc (by omega) hn).2
    have hi : ((out ++ [(⟨id, ln, fr, fr + 1 + v, -1⟩ : SCall)]).getD out.length dSCall).Id = id := by rw [push_at]
    rw [hi] at hb
    rw [hb, Option.bind_some]
    cases ht : tryAt long (out ++ [(⟨id, ln, fr, fr + 1 + v, -1⟩ : SCall)]) out.length with
    | none => exact ⟨c2, _, rfl, o2, hc, gl, hle⟩
    | some at_ =>
      have e3 : w64 (((out ++ [(⟨id, ln, fr, fr + 1 + v, -1⟩ : SCall)]).length : Int) - 1) = ((out.length : Nat) : Int) := by rw [w64_id (by omega) (by omega)]; omega
      have hio : out.length < (out ++ [(⟨id, ln, fr, fr + 1 + v, -1⟩ : SCall)]).length := by omega
      refine ⟨c2, (out ++ [(⟨id, ln, fr, fr + 1 + v, -1⟩ : SCall)]).set out.length (wAt ((out ++ [(⟨id, ln, fr, fr + 1 + v, -1⟩ : SCall)]).getD out.length dSCall) (at_ : Int)), ?_, o2, hc.place hio ht, by rw [List.length_set]; exact gl, fun j hj => ?_⟩
      · show (bif true then _ else _) = _
        rw [cond_true, bd_eq, e3, ix_nat hio, Int.toNat_natCast, chk_dec hio, bd_eq, bd_eq]
        rfl
      · by_cases e : j = out.length
        · rw [e, getD_set hio, push_at]; exact Int.le_refl _
        · rw [getD_set_ne e]; exact hle j hj
theorem k1_eq {R : Type} (n : Nat) (kx : List SCall → Sl1Cur → Option R) (J : Int → Int → Sl1Cur → List SCall → Option R) (long id i fr : Int) (p : Sl1Cur) (out : List SCall) : spec_l17DrawCalls_k1 n kx J true long id i p out id fr = spec_l17DrawCalls_k2 n kx J true long id i p out id long fr := rfl
theorem drawQuay_ok {n : Nat} (code : List Int) (hc : code.length ≤ 1048576) (hn : 1000000000 < n) : ∃ long L, spec_DrawQuay n code = some (long, L) ∧ Clr long L := by
  unfold spec_DrawQuay
  obtain ⟨c0, n1, n2⟩ := new_ok (n := n) code hc hn
  rw [n1, Option.bind_some]
  obtain ⟨v, c1, b1, ⟨b2, b3⟩, b4⟩ := below_ok (n := n) n2 (m := 40) (by omega)
  obtain ⟨cnt, c2, d1, ⟨d2, d3⟩, d4⟩ := below_ok (n := n) b4 (m := 8) (by omega)
  have e1 : w64 (10 + v) = 10 + v := w64_id (by omega) (by omega)
  have key : ∃ L c', spec_l17DrawCalls n c0 true = some (10 + v, L, c') ∧ Clr (10 + v) L := by
    unfold spec_l17DrawCalls
    rw [b1, Option.bind_some]
    dsimp only
    rw [e1, bd_eq, d1, Option.bind_some]
    dsimp only
    generalize hln : 10 + v = long
    have hlong : 10 ≤ long ∧ long ≤ 49 := by omega
    have hz : cnt = cnt - 0 := by omega
    rw [show ((0 : Int), cnt, c2, ([] : List SCall)) = (0, cnt - 0, c2, []) from by rw [← hz]]
    refine loop_runS (enc := fun k (s : Int × Sl1Cur × List SCall) => (s.1, cnt - k, s.2.1, s.2.2)) (s0 := (0, c2, [])) (I := fun k s => 0 ≤ s.1 ∧ s.1 ≤ 3 * (k : Int) ∧ CurOk s.2.1 ∧ Clr long s.2.2 ∧ s.2.2.length = k ∧ ∀ j, j < k → (s.2.2.getD j dSCall).Id ≤ s.1) (Q := fun r => ∃ L c', r = some (long, L, c') ∧ Clr long L) (len := cnt.toNat) (fun k s J hk hI => ?_) (fun s J hI => ?_) (by omega) ⟨Int.le_refl _, by omega, d4, ⟨by omega, by omega, by simp, fun i hi => absurd hi (by simp), fun i j hi => absurd hi (by simp)⟩, rfl, fun j hj => absurd hj (Nat.not_lt_zero _)⟩
    · obtain ⟨id, cu, out⟩ := s
      obtain ⟨i1, i2, i3, i4, i5, i6⟩ := hI
      dsimp only at i1 i2 i3 i4 i5 i6 ⊢
      obtain ⟨v1, x1, y1, ⟨z1, z2⟩, w1⟩ := below_ok (n := n) i3 (m := 3) (by omega)
      obtain ⟨v2, x2, y2, ⟨z3, z4⟩, w2⟩ := below_ok (n := n) w1 (m := 15) (by omega)
      obtain ⟨v3, x3, y3, ⟨z5, z6⟩, w3⟩ := below_ok (n := n) w2 (m := 60) (by omega)
      have f1 : w64 (id + 1) = id + 1 := w64_id (by omega) (by omega)
      have f2 : w64 (id + 1 + v1) = id + 1 + v1 := w64_id (by omega) (by omega)
      have f3 : w64 (1 + v2) = 1 + v2 := w64_id (by omega) (by omega)
      have f4 : w64 (cnt - (k : Int) - 1) = cnt - ((k + 1 : Nat) : Int) := by rw [w64_id (by omega) (by omega)]; omega
      have hL : ∀ ln, 1 ≤ ln ∧ ln ≤ 1000 → ∃ p' out', spec_l17DrawCalls_k2 n (fun out86 p87 => some (long, out86, p87)) (fun id88 i89 p90 out91 => J (id88, i89, p90, out91)) true long (id + 1 + v1) (cnt - (k : Int)) x3 out (id + 1 + v1) ln v3 = J (id + 1 + v1, w64 (cnt - (k : Int) - 1), p', out') ∧ CurOk p' ∧ Clr long out' ∧ out'.length = out.length + 1 ∧ ∀ j, j < out.length + 1 → (out'.getD j dSCall).Id ≤ id + 1 + v1 := fun ln hln => draw_tail _ (fun id88 i89 p90 out91 => J (id88, i89, p90, out91)) w3 i4 (by omega) (fun j hj => by have := i6 j (by omega); omega) (by omega) hln (by omega) hn
      have hst : ∀ lnc : Bool, ∃ ln, (1 ≤ ln ∧ ln ≤ 1000) ∧ (bif decide (1 + v2 > long) then spec_l17DrawCalls_k1 n (fun out86 p87 => some (long, out86, p87)) (fun id88 i89 p90 out91 => J (id88, i89, p90, out91)) true long (id + 1 + v1) (cnt - (k : Int)) x3 out (id + 1 + v1) v3 else spec_l17DrawCalls_k2 n (fun out86 p87 => some (long, out86, p87)) (fun id88 i89 p90 out91 => J (id88, i89, p90, out91)) true long (id + 1 + v1) (cnt - (k : Int)) x3 out (id + 1 + v1) (1 + v2) v3) = spec_l17DrawCalls_k2 n (fun out86 p87 => some (long, out86, p87)) (fun id88 i89 p90 out91 => J (id88, i89, p90, out91)) true long (id + 1 + v1) (cnt - (k : Int)) x3 out (id + 1 + v1) ln v3 := fun _ => by
        by_cases hc : 1 + v2 > long
        · exact ⟨long, by omega, by rw [decide_eq_true hc, cond_true, k1_eq]⟩
        · exact ⟨1 + v2, by omega, by rw [decide_eq_false hc, cond_false]⟩
      obtain ⟨ln, hln, hst⟩ := hst true
      obtain ⟨p', out', g1, g2, g3, g4, g5⟩ := hL ln hln
      refine ⟨(id + 1 + v1, p', out'), ⟨by show 0 ≤ id + 1 + v1; omega, by show id + 1 + v1 ≤ _; omega, g2, g3, by show out'.length = _; omega, fun j hj => g5 j (by omega)⟩, ?_⟩
      show spec_l17DrawCalls_L5 n _ (fun id88 i89 p90 out91 => J (id88, i89, p90, out91)) true long id (cnt - (k : Int)) cu out = J (id + 1 + v1, cnt - ((k + 1 : Nat) : Int), p', out')
      unfold spec_l17DrawCalls_L5 spec_l17DrawCalls_k3
      rw [decide_eq_true (by omega), cond_true, y1, Option.bind_some]
      dsimp only
      rw [f1, f2, bd_eq, y2, Option.bind_some]
      dsimp only
      rw [f3, bd_eq, y3, Option.bind_some]
      dsimp only
      rw [hst, g1, f4]
    · obtain ⟨id, cu, out⟩ := s
      refine ⟨out, cu, ?_, hI.2.2.2.1⟩
      show spec_l17DrawCalls_L5 n _ (fun id88 i89 p90 out91 => J (id88, i89, p90, out91)) true long id (cnt - ((cnt.toNat : Nat) : Int)) cu out = _
      unfold spec_l17DrawCalls_L5
      rw [decide_eq_false (by omega), cond_false]
  obtain ⟨L, c', k1, k2⟩ := key
  rw [k1, Option.bind_some]
  exact ⟨_, L, rfl, k2⟩
/-! ### The bound -/
theorem bound_ok {n : Nat} {long : Int} {L : List SCall} (h : Clr long L) (hn : 1000000000 < n) : ∃ m, impl_Bound17 n long L = some (m, true) ∧ ∀ i, i < L.length → (L.getD i dSCall).Long ≤ m := by
  have hlen := h.len
  unfold impl_Bound17
  have hok : callsOk long L = true := by have := h.to; unfold clearC at this; rw [Bool.and_eq_true] at this; exact this.1
  rw [impl_CallsOk_ok long L (by omega) hn, hok, Option.bind_some, Bool.not_true, cond_false]
  refine loop_runS (enc := fun k (s : Int) => (s, k)) (I := fun k s => 0 ≤ s ∧ s ≤ 100000 ∧ ∀ j, j < k → (L.getD j dSCall).Long ≤ s) (Q := fun r => ∃ m, r = some (m, true) ∧ ∀ i, i < L.length → (L.getD i dSCall).Long ≤ m) (len := L.length) (fun k s J hk hI => ?_) (fun s J hI => ?_) (by omega) ⟨Int.le_refl _, by omega, fun j hj => absurd hj (Nat.not_lt_zero _)⟩
  · have e : w64 ((k : Int) + 1) = ((k + 1 : Nat) : Int) := w64_succ (by omega)
    have hin : ∃ s', (0 ≤ s' ∧ s' ≤ 100000 ∧ (L.getD k dSCall).Long ≤ s') ∧ impl_Bound17_L5 n (fun most35 => some (most35, true)) (fun most36 t37 => J (most36, t37)) L s L (L.length : Int) (k : Int) = J (if s' > s then s' else s, w64 ((k : Int) + 1)) := by
      unfold impl_Bound17_L5 impl_Bound17_k1
      rw [decide_eq_true (by omega), cond_true, ix_nat hk, bd_eq, Int.toNat_natCast]
      refine loop_runS (enc := fun i (s : Int) => (s, i)) (I := fun i x => 0 ≤ x ∧ x ≤ 1000 * (i : Int) ∧ (k < i → (L.getD k dSCall).Long ≤ x)) (Q := fun r => ∃ s', (0 ≤ s' ∧ s' ≤ 100000 ∧ (L.getD k dSCall).Long ≤ s') ∧ r = J (if s' > s then s' else s, w64 ((k : Int) + 1))) (len := L.length) (fun i x J' hi hI' => ?_) (fun x J' hI' => ?_) (by omega) ⟨Int.le_refl _, by omega, fun hh => absurd hh (Nat.not_lt_zero _)⟩
      · obtain ⟨a1, a2, a3⟩ := hI'
        have e' : w64 ((i : Int) + 1) = ((i + 1 : Nat) : Int) := w64_succ (by omega)
        have hO := (h.ok i hi).1
        unfold OkC at hO
        have e2 : w64 ((L.getD i dSCall).To - 1) = (L.getD i dSCall).To - 1 := w64_id (by omega) (by omega)
        have e3 : w64 (x + (L.getD i dSCall).Long) = x + (L.getD i dSCall).Long := w64_id (by omega) (by omega)
        have hst : impl_Bound17_L9 n (fun s29 => (fun most36 t37 => J (most36, t37)) (if s29 > s then s29 else s) (w64 ((k : Int) + 1))) (fun s30 t31 => J' (s30, t31)) L s x L (L.length : Int) (k : Int) L (L.length : Int) (i : Int) (L.getD k dSCall) = (bif (decide ((L.getD k dSCall).From ≥ (L.getD i dSCall).From) && decide ((L.getD k dSCall).From ≤ (L.getD i dSCall).To - 1)) then J' (x + (L.getD i dSCall).Long, ((i + 1 : Nat) : Int)) else J' (x, ((i + 1 : Nat) : Int))) := by
          unfold impl_Bound17_L9 impl_Bound17_k0
          rw [decide_eq_true (by omega), cond_true, ix_nat hi, bd_eq, Int.toNat_natCast, e2, bd_eq, impl_in_ok, Option.bind_some, e3, e']
        by_cases hin : (L.getD k dSCall).From ≥ (L.getD i dSCall).From ∧ (L.getD k dSCall).From ≤ (L.getD i dSCall).To - 1
        · refine ⟨x + (L.getD i dSCall).Long, ⟨by omega, by omega, fun hh => ?_⟩, ?_⟩
          · by_cases hki : k = i
            · subst hki; omega
            · have := a3 (by omega); omega
          · refine hst.trans ?_
            rw [bif_and_p, if_pos hin]
        · refine ⟨x, ⟨a1, by omega, fun hh => ?_⟩, ?_⟩
          · by_cases hki : k = i
            · subst hki; omega
            · exact a3 (by omega)
          · refine hst.trans ?_
            rw [bif_and_p, if_neg hin]
      · obtain ⟨a1, a2, a3⟩ := hI'
        refine ⟨x, ⟨a1, by omega, a3 hk⟩, ?_⟩
        show impl_Bound17_L9 n _ (fun s30 t31 => J' (s30, t31)) L s x L (L.length : Int) (k : Int) L (L.length : Int) (L.length : Int) (L.getD k dSCall) = _
        unfold impl_Bound17_L9
        rw [decide_eq_false (by omega), cond_false]
    obtain ⟨s', s1, s2⟩ := hin
    obtain ⟨i1, i2, i3⟩ := hI
    refine ⟨if s' > s then s' else s, ⟨?_, ?_, fun j hj => ?_⟩, ?_⟩
    · split <;> omega
    · split <;> omega
    · by_cases hjk : j = k
      · subst hjk; split <;> omega
      · have := i3 j (by omega); split <;> omega
    · show impl_Bound17_L5 n _ (fun most36 t37 => J (most36, t37)) L s L (L.length : Int) (k : Int) = _
      rw [s2, e]
  · refine ⟨s, ?_, hI.2.2⟩
    show impl_Bound17_L5 n _ (fun most36 t37 => J (most36, t37)) L s L (L.length : Int) (L.length : Int) = _
    unfold impl_Bound17_L5
    rw [decide_eq_false (by omega), cond_false]
/-! ### Two calls at a quay of nine -/
def two9 : List SCall := [(⟨(1 : Int), (4 : Int), (0 : Int), (5 : Int), (0 : Int)⟩ : SCall), (⟨(2 : Int), (5 : Int), (0 : Int), (5 : Int), (-1 : Int)⟩ : SCall)]
theorem two9_ok {n : Nat} (hn : 1000000000 < n) : impl_Berth n 9 two9 2 = some (4, true) := by
  have h1 : clearC 9 two9 = true := by decide
  have h2 : tryAt 9 two9 1 = some 4 := by decide
  have := (berth_at (n := n) (i := 1) (clr_of h1) (by decide) hn).1
  rw [h2] at this
  exact this
end Go.Sm
end

section
set_option linter.unusedSimpArgs false
set_option linter.deprecated false
set_option linter.unusedSectionVars false
set_option linter.unusedVariables false
set_option linter.unusedSimpArgs false
namespace Go.Sm
attribute [local irreducible] bd chk ix loopN
theorem laws_big_ok (n : Nat) (code : List Int) : laws_big n code = some (decide ((code.length : Int) > 1048576)) := rfl
theorem wAt_eq {a b : SCall} (h : wAt a 0 = wAt b 0) : a.Id = b.Id ∧ a.Long = b.Long ∧ a.From = b.From ∧ a.To = b.To := by
  have h1 := congrArg SCall.Id h
  have h2 := congrArg SCall.Long h
  have h3 := congrArg SCall.From h
  have h4 := congrArg SCall.To h
  exact ⟨h1, h2, h3, h4⟩
theorem turn17 {n : Nat} {kx : Option Bool} {kr : Bool → Option Bool} (J : Int → Option Bool) {long : Int} {L out : List SCall} {i : Nat} (h : Clr long out) (hl : out.length = L.length) (hi : i < out.length) (hw : wAt (out.getD i dSCall) 0 = wAt (L.getD i dSCall) 0) (hk : 0 ≤ (L.getD i dSCall).At → out.getD i dSCall = L.getD i dSCall) (hno : (out.getD i dSCall).At < 0 → tryAt long out i = none) (hn : 1000000000 < n) :
    laws_FnBerths_L8 n kx kr J long (i : Int) L out = J ((i + 1 : Nat) : Int) := by
  have hiL : i < L.length := by omega
  have hlen := h.len
  have e : w64 ((i : Int) + 1) = ((i + 1 : Nat) : Int) := w64_succ (by omega)
  obtain ⟨w1, w2, w3, w4⟩ := wAt_eq hw
  have hk0 : laws_FnBerths_k0 n kx kr J long (i : Int) L out = J ((i + 1 : Nat) : Int) := by
    unfold laws_FnBerths_k0
    rw [ix_nat hi, Int.toNat_natCast, chk_dec hi, (berth_at h hi hn).1, Option.bind_some, e]
    by_cases hat : (out.getD i dSCall).At < 0
    · rw [hno hat]
      show ix _ _ (chk _ (bif !(false == decide ((out.getD i dSCall).At ≥ 0)) then _ else _)) = _
      rw [ix_nat hi, chk_dec hi, decide_eq_false (show ¬ (out.getD i dSCall).At ≥ 0 by omega)]
      rfl
    · have hO := (h.ok i hi).1
      unfold OkC at hO
      have hwa : wAt (out.getD i dSCall) (((out.getD i dSCall).At.toNat : Nat) : Int) = out.getD i dSCall := by
        rw [Int.toNat_of_nonneg (by omega)]; rfl
      obtain ⟨b, b1, b2⟩ := try_le (long := long) (L := out) (i := i) (a := (out.getD i dSCall).At.toNat) (freeP_true.2 fun k hk hki => by rw [hwa]; exact h.nm i k hi hk (by omega)) (by omega)
      rw [b1]
      show ix _ _ (chk _ (bif !(true == decide ((out.getD i dSCall).At ≥ 0)) then _ else bif true then ix _ _ (chk _ (bif decide ((b : Int) > (out.getD i dSCall).At) then _ else _)) else _)) = _
      rw [ix_nat hi, chk_dec hi, decide_eq_true (show (out.getD i dSCall).At ≥ 0 by omega), decide_eq_false (show ¬ (b : Int) > (out.getD i dSCall).At by omega)]
      show ix _ _ (chk _ (J _)) = _
      rw [ix_nat hi, chk_dec hi]
  unfold laws_FnBerths_L8 laws_FnBerths_k1
  rw [decide_eq_true (show (i : Int) < (out.length : Int) by omega), cond_true]
  simp only [ix_nat hi, ix_nat hiL, Int.toNat_natCast, chk_dec hi, chk_dec hiL, bd_eq, w1, w2, decide_true, Bool.not_true, cond_false, hk0]
  by_cases hat : (L.getD i dSCall).At ≥ 0
  · rw [decide_eq_true hat, cond_true, hk hat]
    simp
  · rw [decide_eq_false hat, cond_false]
theorem laws_FnBerths_true (code0 : List Int) (h0 : (code0.length ≤ 9223372036854775807 ∧ ∀ y ∈ code0, rng 0 255 y)) : ∃ n, laws_FnBerths n code0 = some true := by
  refine ⟨1000000001, ?_⟩
  generalize hN : (1000000001 : Nat) = n
  have hn : 1000000000 < n := by omega
  unfold laws_FnBerths
  rw [laws_big_ok, Option.bind_some]
  by_cases hb : (code0.length : Int) > 1048576
  · rw [decide_eq_true hb]; rfl
  rw [decide_eq_false hb, cond_false]
  obtain ⟨long, L, q1, q2⟩ := drawQuay_ok (n := n) code0 (by omega) hn
  obtain ⟨r, r1, r2, r3, r4, r5, r6⟩ := berthAll_clr (n := n) q2 hn
  have hlr := r2.len
  have hlL := q2.len
  unfold laws_FnBerths_k3
  rw [q1, Option.bind_some]
  dsimp only
  rw [r1, Option.bind_some]
  dsimp only
  have hok : callsOk long r = true := by have := r2.to; unfold clearC at this; rw [Bool.and_eq_true] at this; exact this.1
  rw [Bool.not_true, cond_false, decide_eq_true (show (r.length : Int) = (L.length : Int) by omega), Bool.not_true, cond_false, impl_CallsOk_ok long r (by omega) hn, hok, Option.bind_some, Bool.not_true, cond_false, impl_Clear17_ok long r (by omega) hn, r2.to, Option.bind_some, Bool.not_true, cond_false]
  unfold laws_FnBerths_k2
  refine loop_runS (enc := fun k (_ : Unit) => k) (s0 := ()) (I := fun _ _ => True) (Q := fun x => x = some true) (len := r.length) (fun k _ J hk _ => ⟨(), trivial, ?_⟩) (fun _ J _ => ?_) (by omega) trivial
  · exact turn17 J r2 r3 hk (r4 k) (r5 k (by omega)) (r6 k (by omega)) hn
  · unfold laws_FnBerths_L8
    rw [decide_eq_false (by omega), cond_false]
    obtain ⟨m, m1, m2⟩ := bound_ok (n := n) q2 hn
    rw [m1, Option.bind_some]
    dsimp only
    refine loop_runS (enc := fun k (_ : Unit) => k) (s0 := ()) (I := fun _ _ => True) (Q := fun x => x = some true) (len := L.length) (fun k _ J hk _ => ⟨(), trivial, ?_⟩) (fun _ J _ => ?_) (by omega) trivial
    · have e : w64 ((k : Int) + 1) = ((k + 1 : Nat) : Int) := w64_succ (by omega)
      unfold laws_FnBerths_L17
      rw [decide_eq_true (show (k : Int) < (L.length : Int) by omega), cond_true, ix_nat hk, Int.toNat_natCast, chk_dec hk, decide_eq_false (show ¬ m < (L.getD k dSCall).Long by have := m2 k hk; omega), cond_false, e]
    · unfold laws_FnBerths_L17
      rw [decide_eq_false (by omega), cond_false]
      rw [show impl_Berth n 9 [(⟨(1 : Int), (4 : Int), (0 : Int), (5 : Int), (0 : Int)⟩ : SCall), (⟨(2 : Int), (5 : Int), (0 : Int), (5 : Int), (-1 : Int)⟩ : SCall)] 2 = some (4, true) from two9_ok hn, Option.bind_some]
      rfl
end Go.Sm
end
