import Derived.Test.YtojjoinjabogbaaEngA
/- The functions as plain functions over data, and that the law answers true for all arguments. Proved here: laws.FnExactRunSignals returns true for every hoist and every list of signals, and leaves its arguments as they were; no conditions. -/
section
set_option linter.unusedSimpArgs false
set_option linter.deprecated false
set_option linter.unusedSectionVars false
set_option linter.unusedVariables false
namespace Go.Sm
structure SHoist where
  State : Int
  Load : Int
  Height : Int
  Lowest : Int
  Highest : Int
  Limit : Int
  Reset : Int
structure SSignal where
  Kind : Int
  Many : Int
def dSHoist : SHoist := ⟨(0 : Int), (0 : Int), (0 : Int), (0 : Int), (0 : Int), (0 : Int), (0 : Int)⟩
def dSSignal : SSignal := ⟨(0 : Int), (0 : Int)⟩
def laws_szSignalS (n : Nat) (a0 : List SSignal) (left1 : Int) : Option Int :=
  (bd (w64 (left1 - (a0.length : Int))) fun (v1 : Int) => (bif (decide (v1 < (0 : Int))) then some ((-1 : Int)) else some (v1)))
def laws_toHoist (n : Nat) (a0 : SHoist) : Option SHoist :=
  some (a0)
def laws_toSignal (n : Nat) (a0 : SSignal) : Option SSignal :=
  some (a0)
def laws_toSignalS_L3 {R : Type} (n : Nat) (kx0 : List SSignal → Option R) (J : Int → List SSignal → Option R) (a1 : List SSignal) (i2 : Int) (out3 : List SSignal) : Option R :=
  (bif (decide (i2 < (a1.length : Int))) then ix i2 a1.length ((bd (a1.getD i2.toNat dSSignal) fun (e8 : SSignal) => (laws_toSignal n e8).bind fun r9 => ix i2 out3.length (chk (decide (i2.toNat < out3.length)) (J (w64 (i2 + (1 : Int))) (out3.set i2.toNat r9))))) else kx0 out3)
def laws_toSignalS (n : Nat) (a0 : List SSignal) : Option (List SSignal) :=
  chk (decide ((0 : Int) ≤ (a0.length : Int))) (chk (decide ((a0.length : Int) ≤ (a0.length : Int))) (chk (decide ((a0.length : Int) ≤ 9223372036854775807 ∧ (a0.length : Int) * (16 : Int) ≤ 281474976710656)) (loopN (fun (x : Int × List SSignal) J' => laws_toSignalS_L3 n (fun out10 => some (out10)) (fun i11 out12 => J' (i11, out12)) a0 x.1 x.2) n ((0 : Int), (List.replicate (a0.length : Int).toNat dSSignal)))))
def spec_l1In (n : Nat) (x0 : Int) (a1 : Int) (b2 : Int) : Option Bool :=
  (bif (decide (x0 ≥ a1)) then some ((decide (x0 ≤ b2))) else some (false))
def spec_HoistOk (n : Nat) (h0 : SHoist) : Option Bool :=
  (spec_l1In n h0.State (0 : Int) (3 : Int)).bind fun r1 => (bif r1 then (spec_l1In n h0.Lowest (0 : Int) h0.Height).bind fun r2 => (bif r2 then (spec_l1In n h0.Highest h0.Height (10000 : Int)).bind fun r3 => (bif r3 then (spec_l1In n h0.Load (0 : Int) (1000000 : Int)).bind fun r4 => (bif r4 then (spec_l1In n h0.Limit (0 : Int) (1000000 : Int)).bind fun r5 => (bif r5 then (spec_l1In n h0.Reset (0 : Int) (1 : Int)).bind fun r6 => some (r6) else some (false)) else some (false)) else some (false)) else some (false)) else some (false))
def spec_l20If (n : Nat) (h0 : SHoist) (next1 : SHoist) (ok2 : Bool) : Option (SHoist × Bool) :=
  (bif ok2 then some (next1, true) else some (h0, false))
def spec_DoSignal_k0 (n : Nat)  (h0 : SHoist) (s1 : SSignal) : Option (SHoist × Bool) :=
  (bif (decide (s1.Many > h0.Limit)) then (bif (decide (h0.State = (1 : Int))) then some ((⟨(0 : Int), s1.Many, h0.Height, h0.Lowest, h0.Highest, h0.Limit, h0.Reset⟩ : SHoist), true) else some ((⟨h0.State, s1.Many, h0.Height, h0.Lowest, h0.Highest, h0.Limit, h0.Reset⟩ : SHoist), true)) else some ((⟨h0.State, s1.Many, h0.Height, h0.Lowest, h0.Highest, h0.Limit, h0.Reset⟩ : SHoist), true))
def spec_DoSignal_k1 (n : Nat)  (t6 : Bool) (h0 : SHoist) (s1 : SSignal) : Option (SHoist × Bool) :=
  (bif t6 then some ((⟨h0.State, h0.Load, h0.Height, h0.Lowest, h0.Highest, h0.Limit, (1 : Int)⟩ : SHoist), true) else (bif (decide (s1.Kind = (3 : Int))) then (bif (decide (h0.Reset = (1 : Int))) then some ((⟨(0 : Int), h0.Load, h0.Height, h0.Lowest, h0.Highest, h0.Limit, (0 : Int)⟩ : SHoist), true) else some (h0, false)) else some (h0, false)))
def spec_DoSignal_k2 (n : Nat)  (h0 : SHoist) (next31 : Int) : Option (SHoist × Bool) :=
  (bif (decide (h0.State = (1 : Int))) then (bif (decide (next31 = h0.Highest)) then some ((⟨(0 : Int), h0.Load, next31, h0.Lowest, h0.Highest, h0.Limit, h0.Reset⟩ : SHoist), true) else (bif (decide (h0.State = (2 : Int))) then (bif (decide (next31 = h0.Lowest)) then some ((⟨(0 : Int), h0.Load, next31, h0.Lowest, h0.Highest, h0.Limit, h0.Reset⟩ : SHoist), true) else some ((⟨h0.State, h0.Load, next31, h0.Lowest, h0.Highest, h0.Limit, h0.Reset⟩ : SHoist), true)) else some ((⟨h0.State, h0.Load, next31, h0.Lowest, h0.Highest, h0.Limit, h0.Reset⟩ : SHoist), true))) else (bif (decide (h0.State = (2 : Int))) then (bif (decide (next31 = h0.Lowest)) then some ((⟨(0 : Int), h0.Load, next31, h0.Lowest, h0.Highest, h0.Limit, h0.Reset⟩ : SHoist), true) else some ((⟨h0.State, h0.Load, next31, h0.Lowest, h0.Highest, h0.Limit, h0.Reset⟩ : SHoist), true)) else some ((⟨h0.State, h0.Load, next31, h0.Lowest, h0.Highest, h0.Limit, h0.Reset⟩ : SHoist), true)))
def spec_DoSignal_k3 (n : Nat)  (h0 : SHoist) : Option (SHoist × Bool) :=
  (bif (decide (h0.State = (1 : Int))) then (bif (decide (h0.Height = h0.Highest)) then some ((⟨(0 : Int), h0.Load, h0.Height, h0.Lowest, h0.Highest, h0.Limit, h0.Reset⟩ : SHoist), true) else (bif (decide (h0.State = (2 : Int))) then (bif (decide (h0.Height = h0.Lowest)) then some ((⟨(0 : Int), h0.Load, h0.Height, h0.Lowest, h0.Highest, h0.Limit, h0.Reset⟩ : SHoist), true) else some (h0, true)) else some (h0, true))) else (bif (decide (h0.State = (2 : Int))) then (bif (decide (h0.Height = h0.Lowest)) then some ((⟨(0 : Int), h0.Load, h0.Height, h0.Lowest, h0.Highest, h0.Limit, h0.Reset⟩ : SHoist), true) else some (h0, true)) else some (h0, true)))
def spec_DoSignal_k4 (n : Nat)  (t25 : Bool) (h0 : SHoist) : Option (SHoist × Bool) :=
  (bif t25 then (bd (w64 (h0.Height + (1 : Int))) fun (v26 : Int) => (bif (decide (h0.State = (2 : Int))) then (bif (decide (h0.Height > h0.Lowest)) then (bd (w64 (h0.Height - (1 : Int))) fun (v59 : Int) => spec_DoSignal_k2 n  h0 v59) else spec_DoSignal_k2 n  h0 v26) else spec_DoSignal_k2 n  h0 v26)) else (bif (decide (h0.State = (2 : Int))) then (bif (decide (h0.Height > h0.Lowest)) then (bd (w64 (h0.Height - (1 : Int))) fun (v72 : Int) => spec_DoSignal_k2 n  h0 v72) else spec_DoSignal_k3 n  h0) else spec_DoSignal_k3 n  h0))
def spec_DoSignal_k5 (n : Nat)  (h0 : SHoist) (s1 : SSignal) : Option (SHoist × Bool) :=
  (bif (decide (s1.Kind = (3 : Int))) then some ((⟨(0 : Int), h0.Load, h0.Height, h0.Lowest, h0.Highest, h0.Limit, h0.Reset⟩ : SHoist), true) else (bif (decide (s1.Kind = (1 : Int))) then (bif (decide (h0.Load ≤ h0.Limit)) then (bif (decide (h0.Height < h0.Highest)) then (spec_l20If n h0 (⟨(1 : Int), h0.Load, h0.Height, h0.Lowest, h0.Highest, h0.Limit, h0.Reset⟩ : SHoist) (!(decide (h0.State = (2 : Int))))).bind fun r10 => some (r10.1, r10.2) else (spec_l20If n h0 (⟨(1 : Int), h0.Load, h0.Height, h0.Lowest, h0.Highest, h0.Limit, h0.Reset⟩ : SHoist) false).bind fun r13 => some (r13.1, r13.2)) else (spec_l20If n h0 (⟨(1 : Int), h0.Load, h0.Height, h0.Lowest, h0.Highest, h0.Limit, h0.Reset⟩ : SHoist) false).bind fun r16 => some (r16.1, r16.2)) else (bif (decide (s1.Kind = (2 : Int))) then (bif (decide (h0.Height > h0.Lowest)) then (spec_l20If n h0 (⟨(2 : Int), h0.Load, h0.Height, h0.Lowest, h0.Highest, h0.Limit, h0.Reset⟩ : SHoist) (!(decide (h0.State = (1 : Int))))).bind fun r19 => some (r19.1, r19.2) else (spec_l20If n h0 (⟨(2 : Int), h0.Load, h0.Height, h0.Lowest, h0.Highest, h0.Limit, h0.Reset⟩ : SHoist) false).bind fun r22 => some (r22.1, r22.2)) else (bif (decide (s1.Kind = (7 : Int))) then (bif (decide (h0.State = (1 : Int))) then spec_DoSignal_k4 n  (decide (h0.Height < h0.Highest)) h0 else (bif (decide (h0.State = (2 : Int))) then (bif (decide (h0.Height > h0.Lowest)) then (bd (w64 (h0.Height - (1 : Int))) fun (v78 : Int) => spec_DoSignal_k2 n  h0 v78) else spec_DoSignal_k3 n  h0) else spec_DoSignal_k3 n  h0)) else some (h0, false)))))
def spec_DoSignal_k6 (n : Nat)  (h0 : SHoist) (s1 : SSignal) : Option (SHoist × Bool) :=
  (bif (decide (s1.Kind = (6 : Int))) then (spec_l1In n s1.Many (0 : Int) (1000000 : Int)).bind fun r4 => (bif (!r4) then some (h0, false) else spec_DoSignal_k0 n  h0 s1) else (bif (decide (s1.Kind = (4 : Int))) then some ((⟨(3 : Int), h0.Load, h0.Height, h0.Lowest, h0.Highest, h0.Limit, (0 : Int)⟩ : SHoist), true) else (bif (decide (h0.State = (3 : Int))) then (bif (decide (s1.Kind = (5 : Int))) then spec_DoSignal_k1 n  (decide (h0.Reset = (0 : Int))) h0 s1 else (bif (decide (s1.Kind = (3 : Int))) then (bif (decide (h0.Reset = (1 : Int))) then some ((⟨(0 : Int), h0.Load, h0.Height, h0.Lowest, h0.Highest, h0.Limit, (0 : Int)⟩ : SHoist), true) else some (h0, false)) else some (h0, false))) else spec_DoSignal_k5 n  h0 s1)))
def spec_DoSignal (n : Nat) (h0 : SHoist) (s1 : SSignal) : Option (SHoist × Bool) :=
  (spec_HoistOk n h0).bind fun r1 => (bif (!r1) then some (h0, false) else (spec_l1In n s1.Kind (1 : Int) (7 : Int)).bind fun r2 => (bif (!r2) then some (h0, false) else spec_DoSignal_k6 n  h0 s1))
def spec_RunSignals_L3 {R : Type} (n : Nat) (kx0 : SHoist → List Bool → Option R) (J : Int → SHoist → List Bool → Option R) (list1 : List SSignal) (i2 : Int) (h3 : SHoist) (t4 : SHoist) (told5 : List Bool) : Option R :=
  (bif (decide (i2 < (list1.length : Int))) then (bif (decide ((list1.length : Int) ≤ (200 : Int))) then ix i2 list1.length ((bd (list1.getD i2.toNat dSSignal) fun (e20 : SSignal) => (spec_DoSignal n h3 e20).bind fun r21 => chk (decide ((told5 ++ [r21.2]).length * 1 ≤ 140737488355328)) (J (w64 (i2 + (1 : Int))) r21.1 (told5 ++ [r21.2])))) else kx0 h3 told5) else kx0 h3 told5)
def spec_RunSignals (n : Nat) (h0 : SHoist) (list1 : List SSignal) : Option (SHoist × List Bool) :=
  loopN (fun (x : Int × SHoist × List Bool) J' => spec_RunSignals_L3 n (fun h25 told26 => some (h25, told26)) (fun i27 h28 told29 => J' (i27, h28, told29)) list1 x.1 x.2.1 (⟨(0 : Int), (0 : Int), (0 : Int), (0 : Int), (0 : Int), (0 : Int), (0 : Int)⟩ : SHoist) x.2.2) n ((0 : Int), h0, [])
def impl_in (n : Nat) (n0 : Int) (least1 : Int) (most2 : Int) : Option Bool :=
  (bif (decide (n0 ≥ least1)) then some ((decide (n0 ≤ most2))) else some (false))
def impl_HoistOk (n : Nat) (h0 : SHoist) : Option Bool :=
  (impl_in n h0.State (0 : Int) (3 : Int)).bind fun r1 => (bif r1 then (impl_in n h0.Lowest (0 : Int) h0.Height).bind fun r2 => (bif r2 then (impl_in n h0.Height h0.Lowest h0.Highest).bind fun r3 => (bif r3 then (bif (decide (h0.Highest ≤ (10000 : Int))) then (impl_in n h0.Load (0 : Int) (1000000 : Int)).bind fun r4 => (bif r4 then (impl_in n h0.Limit (0 : Int) (1000000 : Int)).bind fun r5 => (bif r5 then (impl_in n h0.Reset (0 : Int) (1 : Int)).bind fun r6 => some (r6) else some (false)) else some (false)) else some (false)) else some (false)) else some (false)) else some (false))
def impl_DoSignal_k0 (n : Nat)  (t8 : Bool) (h0 : SHoist) (s1 : SSignal) : Option (SHoist × Bool) :=
  (bif t8 then some (h0, false) else (bif (decide (s1.Kind = (3 : Int))) then some ((⟨(0 : Int), h0.Load, h0.Height, h0.Lowest, h0.Highest, h0.Limit, h0.Reset⟩ : SHoist), true) else (bif (decide (s1.Kind = (1 : Int))) then (bif (decide (h0.Load > h0.Limit)) then some (h0, false) else (bif (decide (h0.Height = h0.Highest)) then some (h0, false) else (bif (decide (h0.State = (2 : Int))) then some (h0, false) else some ((⟨(1 : Int), h0.Load, h0.Height, h0.Lowest, h0.Highest, h0.Limit, h0.Reset⟩ : SHoist), true)))) else (bif (decide (s1.Kind = (2 : Int))) then (bif (decide (h0.Height = h0.Lowest)) then some (h0, false) else (bif (decide (h0.State = (1 : Int))) then some (h0, false) else some ((⟨(2 : Int), h0.Load, h0.Height, h0.Lowest, h0.Highest, h0.Limit, h0.Reset⟩ : SHoist), true))) else (bif (decide (h0.State = (1 : Int))) then (bd (w64 (h0.Height + (1 : Int))) fun (v11 : Int) => (bif (decide ((if h0.Highest < v11 then h0.Highest else v11) = h0.Highest)) then some ((⟨(0 : Int), h0.Load, (if h0.Highest < v11 then h0.Highest else v11), h0.Lowest, h0.Highest, h0.Limit, h0.Reset⟩ : SHoist), true) else some ((⟨h0.State, h0.Load, (if h0.Highest < v11 then h0.Highest else v11), h0.Lowest, h0.Highest, h0.Limit, h0.Reset⟩ : SHoist), true))) else (bif (decide (h0.State = (2 : Int))) then (bd (w64 (h0.Height - (1 : Int))) fun (v14 : Int) => (bif (decide ((if h0.Lowest > v14 then h0.Lowest else v14) = h0.Lowest)) then some ((⟨(0 : Int), h0.Load, (if h0.Lowest > v14 then h0.Lowest else v14), h0.Lowest, h0.Highest, h0.Limit, h0.Reset⟩ : SHoist), true) else some ((⟨h0.State, h0.Load, (if h0.Lowest > v14 then h0.Lowest else v14), h0.Lowest, h0.Highest, h0.Limit, h0.Reset⟩ : SHoist), true))) else some (h0, true)))))))
def impl_DoSignal_k1 (n : Nat)  (t6 : Bool) (h0 : SHoist) (s1 : SSignal) : Option (SHoist × Bool) :=
  (bif t6 then some ((⟨h0.State, h0.Load, h0.Height, h0.Lowest, h0.Highest, h0.Limit, (1 : Int)⟩ : SHoist), true) else (bif (decide (h0.State = (3 : Int))) then (bif (decide (s1.Kind = (3 : Int))) then (bif (decide (h0.Reset = (1 : Int))) then some ((⟨(0 : Int), h0.Load, h0.Height, h0.Lowest, h0.Highest, h0.Limit, (0 : Int)⟩ : SHoist), true) else (bif (decide (h0.State = (3 : Int))) then some (h0, false) else impl_DoSignal_k0 n  (decide (s1.Kind = (5 : Int))) h0 s1)) else (bif (decide (h0.State = (3 : Int))) then some (h0, false) else impl_DoSignal_k0 n  (decide (s1.Kind = (5 : Int))) h0 s1)) else (bif (decide (h0.State = (3 : Int))) then some (h0, false) else impl_DoSignal_k0 n  (decide (s1.Kind = (5 : Int))) h0 s1)))
def impl_DoSignal_k2 (n : Nat)  (h0 : SHoist) (s1 : SSignal) : Option (SHoist × Bool) :=
  (bif (decide (h0.State = (3 : Int))) then (bif (decide (s1.Kind = (3 : Int))) then (bif (decide (h0.Reset = (1 : Int))) then some ((⟨(0 : Int), h0.Load, h0.Height, h0.Lowest, h0.Highest, h0.Limit, (0 : Int)⟩ : SHoist), true) else (bif (decide (h0.State = (3 : Int))) then some (h0, false) else impl_DoSignal_k0 n  (decide (s1.Kind = (5 : Int))) h0 s1)) else (bif (decide (h0.State = (3 : Int))) then some (h0, false) else impl_DoSignal_k0 n  (decide (s1.Kind = (5 : Int))) h0 s1)) else (bif (decide (h0.State = (3 : Int))) then some (h0, false) else impl_DoSignal_k0 n  (decide (s1.Kind = (5 : Int))) h0 s1))
def impl_DoSignal_k3 (n : Nat)  (h0 : SHoist) (s1 : SSignal) : Option (SHoist × Bool) :=
  (bif (decide (s1.Kind = (4 : Int))) then some ((⟨(3 : Int), h0.Load, h0.Height, h0.Lowest, h0.Highest, h0.Limit, (0 : Int)⟩ : SHoist), true) else (bif (decide (s1.Kind = (6 : Int))) then (bif (decide (s1.Many > h0.Limit)) then (bif (decide (h0.State = (1 : Int))) then some ((⟨(0 : Int), s1.Many, h0.Height, h0.Lowest, h0.Highest, h0.Limit, h0.Reset⟩ : SHoist), true) else some ((⟨h0.State, s1.Many, h0.Height, h0.Lowest, h0.Highest, h0.Limit, h0.Reset⟩ : SHoist), true)) else some ((⟨h0.State, s1.Many, h0.Height, h0.Lowest, h0.Highest, h0.Limit, h0.Reset⟩ : SHoist), true)) else (bif (decide (h0.State = (3 : Int))) then (bif (decide (s1.Kind = (5 : Int))) then impl_DoSignal_k1 n  (decide (h0.Reset = (0 : Int))) h0 s1 else impl_DoSignal_k2 n  h0 s1) else impl_DoSignal_k2 n  h0 s1)))
def impl_DoSignal (n : Nat) (h0 : SHoist) (s1 : SSignal) : Option (SHoist × Bool) :=
  (impl_HoistOk n h0).bind fun r1 => (bif (!r1) then some (h0, false) else (impl_in n s1.Kind (1 : Int) (7 : Int)).bind fun r2 => (bif (!r2) then some (h0, false) else (bif (decide (s1.Kind = (6 : Int))) then (impl_in n s1.Many (0 : Int) (1000000 : Int)).bind fun r3 => (bif (!r3) then some (h0, false) else impl_DoSignal_k3 n  h0 s1) else impl_DoSignal_k3 n  h0 s1)))
def impl_own_bool (n : Nat) (l0 : List Bool) : Option (List Bool) :=
  chk (decide ((0 : Int) ≤ (l0.length : Int))) (chk (decide ((l0.length : Int) ≤ 9223372036854775807 ∧ (l0.length : Int) * (1 : Int) ≤ 281474976710656)) (chk (decide (l0.length * 1 ≤ 140737488355328)) (some (l0))))
def impl_RunSignals_L5 {R : Type} (n : Nat) (kx0 : SHoist → List Bool → Option R) (J : Int → SHoist → List Bool → Option R) (t1 : List SSignal) (t2 : Int) (t3 : Int) (h4 : SHoist) (t5 : SHoist) (told6 : List Bool) : Option R :=
  (bif (decide (t3 < t2)) then ix t3 t1.length ((bd (t1.getD t3.toNat dSSignal) fun (e12 : SSignal) => (impl_DoSignal n h4 e12).bind fun r13 => chk (decide ((told6 ++ [r13.2]).length * 1 ≤ 140737488355328)) (J (w64 (t3 + (1 : Int))) r13.1 (told6 ++ [r13.2])))) else kx0 h4 told6)
def impl_RunSignals_k0 (n : Nat)  (list1 : List SSignal) (h0 : SHoist) : Option (SHoist × List Bool) :=
  loopN (fun (x : Int × SHoist × List Bool) J' => impl_RunSignals_L5 n (fun h14 told15 => (impl_own_bool n told15).bind fun r16 => some (h14, r16)) (fun t17 h18 told19 => J' (t17, h18, told19)) list1 (list1.length : Int) x.1 x.2.1 (⟨(0 : Int), (0 : Int), (0 : Int), (0 : Int), (0 : Int), (0 : Int), (0 : Int)⟩ : SHoist) x.2.2) n ((0 : Int), h0, [])
def impl_RunSignals (n : Nat) (h0 : SHoist) (list1 : List SSignal) : Option (SHoist × List Bool) :=
  (bif (decide ((list1.length : Int) > (200 : Int))) then some (h0, []) else impl_RunSignals_k0 n  list1 h0)
def laws_eqHoist_k0 (n : Nat)  (a0 : SHoist) (b1 : SHoist) : Option Bool :=
  (bif (!(decide (a0.Lowest = b1.Lowest))) then some (false) else (bif (!(decide (a0.Highest = b1.Highest))) then some (false) else (bif (!(decide (a0.Limit = b1.Limit))) then some (false) else (bif (!(decide (a0.Reset = b1.Reset))) then some (false) else some (true)))))
def laws_eqHoist (n : Nat) (a0 : SHoist) (b1 : SHoist) : Option Bool :=
  (bif (!(decide (a0.State = b1.State))) then some (false) else (bif (!(decide (a0.Load = b1.Load))) then some (false) else (bif (!(decide (a0.Height = b1.Height))) then some (false) else laws_eqHoist_k0 n  a0 b1)))
def laws_eqBoolS_L4 {R : Type} (n : Nat) (kx0 : Option R) (kxr : Bool → Option R) (J : Int → Option R) (a1 : List Bool) (b2 : List Bool) (i3 : Int) : Option R :=
  (bif (decide (i3 < (a1.length : Int))) then ix i3 a1.length (ix i3 b2.length ((bif (!((a1.getD i3.toNat false) == (b2.getD i3.toNat false))) then kxr false else J (w64 (i3 + (1 : Int)))))) else kx0)
def laws_eqBoolS (n : Nat) (a0 : List Bool) (b1 : List Bool) : Option Bool :=
  (bif (!(decide ((a0.length : Int) = (b1.length : Int)))) then some (false) else loopN (fun (x : Int) J' => laws_eqBoolS_L4 n (some (true)) (fun t9 => some (t9)) J' a0 b1 x) n ((0 : Int)))
def laws_eqSignal (n : Nat) (a0 : SSignal) (b1 : SSignal) : Option Bool :=
  (bif (!(decide (a0.Kind = b1.Kind))) then some (false) else (bif (!(decide (a0.Many = b1.Many))) then some (false) else some (true)))
def laws_eqSignalS_L4 {R : Type} (n : Nat) (kx0 : Option R) (kxr : Bool → Option R) (J : Int → Option R) (a1 : List SSignal) (b2 : List SSignal) (i3 : Int) : Option R :=
  (bif (decide (i3 < (a1.length : Int))) then ix i3 a1.length ((bd (a1.getD i3.toNat dSSignal) fun (e9 : SSignal) => ix i3 b2.length ((bd (b2.getD i3.toNat dSSignal) fun (e10 : SSignal) => (laws_eqSignal n e9 e10).bind fun r11 => (bif (!r11) then kxr false else J (w64 (i3 + (1 : Int)))))))) else kx0)
def laws_eqSignalS (n : Nat) (a0 : List SSignal) (b1 : List SSignal) : Option Bool :=
  (bif (!(decide ((a0.length : Int) = (b1.length : Int)))) then some (false) else loopN (fun (x : Int) J' => laws_eqSignalS_L4 n (some (true)) (fun t15 => some (t15)) J' a0 b1 x) n ((0 : Int)))
def laws_markSignalS_k0 {R : Type} (n : Nat) (kx0 : Int → List SSignal → Option R) (J : Int → Int → List SSignal → Option R) (k4 : Int) (i5 : Int) (p6 : List SSignal) : Option R :=
  ix i5 p6.length (chk (decide (i5.toNat < p6.length)) ((bd (p6.getD i5.toNat dSSignal) fun (e7 : SSignal) => (bd (p6.set i5.toNat (⟨k4, e7.Many⟩ : SSignal)) fun (l8 : List SSignal) => ix i5 l8.length (chk (decide (i5.toNat < l8.length)) ((bd (l8.getD i5.toNat dSSignal) fun (e9 : SSignal) => (bd (l8.set i5.toNat (⟨e9.Kind, (w64 (k4 + (1 : Int)))⟩ : SSignal)) fun (l10 : List SSignal) => (bd (w64 ((w64 (k4 + (1 : Int))) + (1 : Int))) fun (v11 : Int) => J v11 (w64 (i5 + (1 : Int))) l10)))))))))
def laws_markSignalS_L2 {R : Type} (n : Nat) (kx0 : Int → List SSignal → Option R) (J : Int → Int → List SSignal → Option R) (k1 : Int) (i2 : Int) (p3 : List SSignal) : Option R :=
  (bif (decide (i2 < (p3.length : Int))) then laws_markSignalS_k0 n kx0 J k1 i2 p3 else kx0 k1 p3)
def laws_markSignalS (n : Nat) (a0 : List SSignal) (k1 : Int) : Option (Int × List SSignal) :=
  loopN (fun (x : Int × Int × List SSignal) J' => laws_markSignalS_L2 n (fun k12 p13 => some (k12, p13)) (fun k14 i15 p16 => J' (k14, i15, p16)) x.1 x.2.1 x.2.2) n (k1, (0 : Int), a0)
def laws_markBoolS_L2 {R : Type} (n : Nat) (kx0 : Int → List Bool → Option R) (J : Int → Int → List Bool → Option R) (k1 : Int) (i2 : Int) (p3 : List Bool) : Option R :=
  (bif (decide (i2 < (p3.length : Int))) then ix i2 p3.length (chk (decide (i2.toNat < p3.length)) ((bd (p3.set i2.toNat (decide ((Int.tmod k1 (3 : Int)) = (0 : Int)))) fun (l8 : List Bool) => J (w64 (k1 + (1 : Int))) (w64 (i2 + (1 : Int))) l8))) else kx0 k1 p3)
def laws_markBoolS (n : Nat) (a0 : List Bool) (k1 : Int) : Option (Int × List Bool) :=
  loopN (fun (x : Int × Int × List Bool) J' => laws_markBoolS_L2 n (fun k9 p10 => some (k9, p10)) (fun k11 i12 p13 => J' (k11, i12, p13)) x.1 x.2.1 x.2.2) n (k1, (0 : Int), a0)
def laws_heldBoolS_L2 {R : Type} (n : Nat) (kx0 : Int → Option R) (kxr : Int → Option R) (J : Int → Int → Option R) (a1 : List Bool) (k2 : Int) (i3 : Int) : Option R :=
  (bif (decide (i3 < (a1.length : Int))) then ix i3 a1.length ((bif (!((a1.getD i3.toNat false) == (decide ((Int.tmod k2 (3 : Int)) = (0 : Int))))) then kxr (-1 : Int) else J (w64 (k2 + (1 : Int))) (w64 (i3 + (1 : Int))))) else kx0 k2)
def laws_heldBoolS (n : Nat) (a0 : List Bool) (k1 : Int) : Option Int :=
  loopN (fun (x : Int × Int) J' => laws_heldBoolS_L2 n (fun k16 => some (k16)) (fun t17 => some (t17)) (fun k18 i19 => J' (k18, i19)) a0 x.1 x.2) n (k1, (0 : Int))
def laws_FnExactRunSignals_k0 (n : Nat)  (aList1 : List SSignal) (m56 : Int) (aH0 : SHoist) (w057 : SHoist) (t58 : List Bool) (t59 : List Bool) : Option Bool :=
  (laws_toHoist n aH0).bind fun r60 => (laws_toSignalS n aList1).bind fun r61 => (impl_RunSignals n r60 r61).bind fun r62 => (laws_eqHoist n r62.1 w057).bind fun r63 => (bif (!r63) then some (false) else (laws_eqBoolS n r62.2 t58).bind fun r66 => (bif (!r66) then some (false) else (laws_heldBoolS n t59 (1 : Int)).bind fun r80 => (bif (decide (r80 < (0 : Int))) then some (false) else (bif (!(decide (r80 = m56))) then some (false) else some (true)))))
def laws_FnExactRunSignals_k1 (n : Nat)  (aList1 : List SSignal) (t42 : Bool) (aH0 : SHoist) (w043 : SHoist) (t44 : List Bool) (t45 : List Bool) : Option Bool :=
  (bif t42 then some (false) else (laws_markBoolS n t45 (1 : Int)).bind fun r87 => (laws_heldBoolS n r87.2 (1 : Int)).bind fun r88 => (bif (decide (r88 < (0 : Int))) then some (false) else (bif (!(decide (r88 = r87.1))) then some (false) else laws_FnExactRunSignals_k0 n  aList1 r87.1 aH0 w043 t44 r87.2)))
def laws_FnExactRunSignals_k2 (n : Nat)  (aList1 : List SSignal) (aH0 : SHoist) (w021 : SHoist) (t22 : List Bool) (t23 : List SSignal) (g024 : SHoist) (t25 : List Bool) : Option Bool :=
  (laws_toSignalS n aList1).bind fun r26 => (laws_eqSignalS n t23 r26).bind fun r27 => (bif (!r27) then some (false) else (laws_markSignalS n t23 (1 : Int)).bind fun r98 => (bif (decide (r98.1 < (0 : Int))) then some (false) else (laws_eqHoist n g024 w021).bind fun r102 => (bif (!r102) then some (false) else (laws_eqBoolS n t25 t22).bind fun r106 => laws_FnExactRunSignals_k1 n  aList1 (!r106) aH0 w021 t22 t25)))
def laws_FnExactRunSignals_k3 (n : Nat)  (aList1 : List SSignal) (aH0 : SHoist) : Option Bool :=
  (laws_toHoist n aH0).bind fun r2 => (laws_toSignalS n aList1).bind fun r3 => (spec_RunSignals n r2 r3).bind fun r4 => (laws_toSignalS n aList1).bind fun r5 => (laws_toHoist n aH0).bind fun r6 => (impl_RunSignals n r6 r5).bind fun r7 => (laws_eqHoist n r7.1 r4.1).bind fun r8 => (bif (!r8) then some (false) else (laws_eqBoolS n r7.2 r4.2).bind fun r14 => (bif (!r14) then some (false) else laws_FnExactRunSignals_k2 n  aList1 aH0 r4.1 r4.2 r5 r7.1 r7.2))
def laws_FnExactRunSignals (n : Nat) (aH0 : SHoist) (aList1 : List SSignal) : Option Bool :=
  (laws_szSignalS n aList1 (1048576 : Int)).bind fun r1 => (bif (decide (r1 < (0 : Int))) then some (true) else laws_FnExactRunSignals_k3 n  aList1 aH0)
def rng (a b x : Int) : Prop := a ≤ x ∧ x ≤ b
def wfSHoist (x : SHoist) : Prop := rng (-9223372036854775808) 9223372036854775807 x.State ∧ rng (-9223372036854775808) 9223372036854775807 x.Load ∧ rng (-9223372036854775808) 9223372036854775807 x.Height ∧ rng (-9223372036854775808) 9223372036854775807 x.Lowest ∧ rng (-9223372036854775808) 9223372036854775807 x.Highest ∧ rng (-9223372036854775808) 9223372036854775807 x.Limit ∧ rng (-9223372036854775808) 9223372036854775807 x.Reset
def wfSSignal (x : SSignal) : Prop := rng (-9223372036854775808) 9223372036854775807 x.Kind ∧ rng (-9223372036854775808) 9223372036854775807 x.Many
end Go.Sm
end

section
set_option linter.unusedSimpArgs false
set_option linter.deprecated false
set_option linter.unusedSectionVars false
set_option linter.unusedVariables false
namespace Go.Sm
/-! ### Of the words that printed functions are made of -/
theorem w64_id {x : Int} (h1 : -9223372036854775808 ≤ x) (h2 : x ≤ 9223372036854775807) : w64 x = x := by
  show (let m := x % (2 ^ 64 : Int); if (true && decide ((2 : Int) ^ 63 ≤ m)) = true then m - 2 ^ 64 else m) = x
  simp only [Bool.true_and, decide_eq_true_eq]
  split <;> omega
theorem w64_rng (x : Int) : -9223372036854775808 ≤ w64 x ∧ w64 x ≤ 9223372036854775807 := by
  show -9223372036854775808 ≤ (let m := x % (2 ^ 64 : Int); if (true && decide ((2 : Int) ^ 63 ≤ m)) = true then m - 2 ^ 64 else m) ∧ (let m := x % (2 ^ 64 : Int); if (true && decide ((2 : Int) ^ 63 ≤ m)) = true then m - 2 ^ 64 else m) ≤ 9223372036854775807
  simp only [Bool.true_and, decide_eq_true_eq]
  split <;> omega
theorem chk_of {R : Type} {b : Bool} {x : Option R} (h : b = true) : chk b x = x := by rw [h]; rfl
theorem chk_dec {R : Type} {p : Prop} [Decidable p] {x : Option R} (h : p) : chk (decide p) x = x := chk_of (decide_eq_true h)
theorem ix_of {R : Type} {i : Int} {len : Nat} {x : Option R} (h0 : 0 ≤ i) (h1 : i < (len : Int)) : ix i len x = x := by
  unfold ix
  rw [decide_eq_true h0, decide_eq_true h1]
  rfl
theorem ix_nat {R : Type} {i len : Nat} {x : Option R} (h1 : i < len) : ix (i : Int) len x = x := ix_of (by omega) (by omega)
theorem bif_dec {α : Type} {p : Prop} [Decidable p] {x y : α} : (bif decide p then x else y) = if p then x else y := by
  by_cases h : p <;> simp [h]
theorem bif_not {α : Type} {b : Bool} {x y : α} : (bif !b then x else y) = bif b then y else x := by cases b <;> rfl
theorem bif_and {α : Type} {a b : Bool} {x y : α} : (bif a && b then x else y) = bif a then (bif b then x else y) else y := by cases a <;> rfl
theorem loopN_succ {X R : Type} (b : X → (X → Option R) → Option R) (m : Nat) (x : X) : loopN b (m + 1) x = b x (loopN b m) := rfl
/-- What holds of a loop: by what is left to go. -/
theorem loopN_ind {X R : Type} {b : X → (X → Option R) → Option R} (μ : X → Nat) (I : X → Prop) (Q : X → Option R → Prop)
    (h : ∀ x J, I x → (∀ y, I y → μ y < μ x → Q y (J y)) → Q x (b x J)) : ∀ n x, I x → μ x < n → Q x (loopN b n x)
  | 0, x, hi, hm => absurd hm (Nat.not_lt_zero _)
  | n + 1, x, hi, hm => h x (loopN b n) hi fun y hy hl => loopN_ind μ I Q h n y hy (by omega)
theorem getD_eq {α : Type} {l : List α} {i : Nat} {d : α} (h : i < l.length) : l.getD i d = l[i] := by
  simp [List.getD, h]
theorem w64_succ {k : Nat} (h : k < 9223372036854775807) : w64 ((k : Int) + 1) = ((k + 1 : Nat) : Int) := by
  rw [w64_id (by omega) (by omega)]
  rfl
theorem take_succ_getD {α : Type} {l : List α} {i : Nat} {d : α} (h : i < l.length) : l.take (i + 1) = l.take i ++ [l.getD i d] := by
  rw [List.take_succ, getD_eq h, List.getElem?_eq_getElem h]
  rfl
theorem drop_getD {α : Type} {l : List α} {i : Nat} {d : α} (h : i < l.length) : l.drop i = l.getD i d :: l.drop (i + 1) := by
  rw [getD_eq h]
  exact List.drop_eq_getElem_cons h
theorem bd_eq {α β : Type} (e : α) (f : α → β) : bd e f = f e := rfl
theorem bd_set {α β : Type} {Q : β → Prop} {F : List α → β} {p : List α} {i : Nat} {x : α} (h : ∀ l : List α, l.length = p.length → Q (F l)) : Q (bd (p.set i x) F) := h _ (by simp)
theorem bd_is {α β : Type} {Q : β → Prop} {F : α → β} {e : α} (h : ∀ v : α, v = e → Q (F v)) : Q (bd e F) := h _ rfl
theorem bd_val {α β : Type} {Q : β → Prop} {F : α → β} {e : α} (h : ∀ v : α, Q (F v)) : Q (bd e F) := h _
theorem chk_q {R : Type} {Q : Option R → Prop} {b : Bool} {x : Option R} (h : b = true) (hx : Q x) : Q (chk b x) := by rw [chk_of h]; exact hx
theorem ix_q {R : Type} {Q : Option R → Prop} {i : Int} {len : Nat} {x : Option R} (h0 : 0 ≤ i) (h1 : i < (len : Int)) (hx : Q x) : Q (ix i len x) := by rw [ix_of h0 h1]; exact hx
theorem bd_upd {α β : Type} {Q : β → Prop} {F : List α → β} {p : List α} {i : Nat} {x d : α} (hi : i < p.length) (h : ∀ l : List α, l.length = p.length → l.getD i d = x → (∀ j, j ≠ i → l.getD j d = p.getD j d) → Q (F l)) : Q (bd (p.set i x) F) :=
  h _ (by simp) (by simp [List.getD, hi]) (fun j hj => by simp [List.getD, List.getElem?_set, Ne.symm hj])
/-- A list written from the front. -/
theorem set_take {α : Type} {a : List α} {d : α} {m k : Nat} (h : k < a.length) (hm : m = a.length := by rfl) : (a.take k ++ (List.replicate m d).drop k).set k (a.getD k d) = a.take (k + 1) ++ (List.replicate m d).drop (k + 1) := by
  subst hm
  have h1 : (a.take k).length = k := by simp; omega
  rw [List.set_append_right _ _ (by omega), h1, Nat.sub_self, take_succ_getD h, List.append_assoc]
  congr 1
  rw [List.drop_eq_getElem_cons (by simp; exact h)]
  rfl
end Go.Sm
end

section
set_option linter.unusedSimpArgs false
set_option linter.deprecated false
set_option linter.unusedSectionVars false
set_option linter.unusedVariables false
set_option linter.unusedSimpArgs false
namespace Go.Sm
attribute [local irreducible] bd chk ix loopN
theorem laws_szSignalS_ok {n : Nat} (a : List SSignal) {left : Int} (h : (a.length ≤ 9223372036854775807 ∧ ∀ y ∈ a, wfSSignal y)) (hl : 0 ≤ left) (hl2 : left ≤ 1048576) (hn : 1000000000 < n) :
    ∃ r, laws_szSignalS n a left = some r ∧ r ≤ left ∧ (0 ≤ r → (a.length : Int) ≤ left) := by
  unfold laws_szSignalS
  obtain ⟨h0, h1⟩ := h
  rw [w64_id (by omega) (by omega), bd_eq, bif_dec]
  split
  · exact ⟨-1, rfl, by omega, by omega⟩
  · exact ⟨_, rfl, by omega, by omega⟩
theorem laws_toHoist_eq (n : Nat) (a : SHoist) : laws_toHoist n a = some a := by simp [laws_toHoist]
theorem laws_toSignal_eq (n : Nat) (a : SSignal) : laws_toSignal n a = some a := by simp [laws_toSignal]
theorem laws_toSignalS_eq {n : Nat} (a : List SSignal) (hl : a.length ≤ 1048576) (hn : 1000000000 < n) : laws_toSignalS n a = some a := by
  unfold laws_toSignalS
  rw [chk_dec (by omega), chk_dec (by omega), chk_dec (by omega)]
  refine loopN_ind (fun x => a.length - x.1.toNat) (fun x => ∃ k : Nat, k ≤ a.length ∧ x = ((k : Int), a.take k ++ (List.replicate a.length dSSignal).drop k)) (fun x r => r = some a) ?_ n _ ⟨0, by omega, by simp⟩ (by simp; omega)
  rintro _ J ⟨k, hk, rfl⟩ ih
  unfold laws_toSignalS_L3
  by_cases h : k < a.length
  · have hlen : (a.take k ++ (List.replicate a.length dSSignal).drop k).length = a.length := by simp; omega
    simp only [Int.ofNat_lt, h, decide_true, cond_true, ix_nat h, hlen, Int.toNat_natCast, Option.bind_some, chk_of, bd_eq, laws_toSignal_eq]
    rw [w64_succ (by omega)]
    exact ih _ ⟨k + 1, h, by rw [set_take h]⟩ (by simp; omega)
  · have : k = a.length := by omega
    subst this
    simp
theorem laws_eqHoist_eq (n : Nat) (a : SHoist) : laws_eqHoist n a a = some true := by simp [laws_eqHoist, laws_eqHoist_k0]
theorem laws_eqBoolS_eq {n : Nat} (a : List Bool) (hl : a.length ≤ 1048576) (hn : 1000000000 < n) : laws_eqBoolS n a a = some true := by
  unfold laws_eqBoolS
  simp only [decide_true, Bool.not_true, cond_false]
  refine loopN_ind (fun x => a.length - x.toNat) (fun x => ∃ k : Nat, k ≤ a.length ∧ x = (k : Int)) (fun x r => r = some true) ?_ n _ ⟨0, by omega, rfl⟩ (by simp; omega)
  rintro _ J ⟨k, hk, rfl⟩ ih
  unfold laws_eqBoolS_L4
  by_cases h : k < a.length
  · simp only [Int.ofNat_lt, h, decide_true, cond_true, ix_nat h, Bool.not_true, cond_false, bd_eq, Option.bind_some, beq_self_eq_true]
    rw [w64_succ (by omega)]
    exact ih _ ⟨k + 1, h, rfl⟩ (by simp; omega)
  · simp [h]
theorem laws_eqSignal_eq (n : Nat) (a : SSignal) : laws_eqSignal n a a = some true := by simp [laws_eqSignal]
theorem laws_eqSignalS_eq {n : Nat} (a : List SSignal) (hl : a.length ≤ 1048576) (hn : 1000000000 < n) : laws_eqSignalS n a a = some true := by
  unfold laws_eqSignalS
  simp only [decide_true, Bool.not_true, cond_false]
  refine loopN_ind (fun x => a.length - x.toNat) (fun x => ∃ k : Nat, k ≤ a.length ∧ x = (k : Int)) (fun x r => r = some true) ?_ n _ ⟨0, by omega, rfl⟩ (by simp; omega)
  rintro _ J ⟨k, hk, rfl⟩ ih
  unfold laws_eqSignalS_L4
  by_cases h : k < a.length
  · simp only [Int.ofNat_lt, h, decide_true, cond_true, ix_nat h, Bool.not_true, cond_false, bd_eq, Option.bind_some, beq_self_eq_true, laws_eqSignal_eq]
    rw [w64_succ (by omega)]
    exact ih _ ⟨k + 1, h, rfl⟩ (by simp; omega)
  · simp [h]
def MkSignalS (n : Nat) (k : Int) (x : SSignal) : Prop := x.Kind = k ∧ x.Many = (k + 1)
def MkSignalSQ (n : Nat) (k0 : Int) (m : Nat) (r : Option (Int × List SSignal)) : Prop := ∃ a2 : List SSignal, r = some (k0 + 2 * (m : Int), a2) ∧ a2.length = m ∧ ∀ i, i < m → MkSignalS n (k0 + 2 * (i : Int)) (a2.getD i dSSignal)
theorem laws_markSignalS_ok {n : Nat} (a : List SSignal) (k0 : Int) (hk0 : 0 ≤ k0) (hb : k0 + 2 * (a.length : Int) ≤ 900000000) (hn : 1000000000 < n) : MkSignalSQ n k0 a.length (laws_markSignalS n a k0) := by
  unfold laws_markSignalS
  refine loopN_ind (fun x => a.length - x.2.1.toNat) (fun x => ∃ (k : Nat) (p : List SSignal), k ≤ a.length ∧ x = (k0 + 2 * (k : Int), (k : Int), p) ∧ p.length = a.length ∧ ∀ i, i < k → MkSignalS n (k0 + 2 * (i : Int)) (p.getD i dSSignal))
    (fun x r => MkSignalSQ n k0 a.length r) ?_ n _ ⟨0, a, by omega, by simp, rfl, by omega⟩ (by simp; omega)
  rintro _ J ⟨k, p, hk, rfl, hp, hm⟩ ih
  unfold laws_markSignalS_L2
  by_cases h : k < a.length
  · have h' : k < p.length := by omega
    simp only [Int.ofNat_lt, h', decide_true, cond_true, Int.toNat_natCast]
    unfold laws_markSignalS_k0
    try simp (disch := omega) only [w64_id, Int.toNat_natCast, Int.add_assoc, Int.reduceAdd]
    try simp only [Option.bind_some, Int.add_assoc, Int.reduceAdd]
    repeat (first | refine ix_q (Q := MkSignalSQ n k0 a.length) (by omega) (by omega) ?_ | refine chk_q (Q := MkSignalSQ n k0 a.length) (decide_eq_true (by omega)) ?_ | refine bd_upd (Q := MkSignalSQ n k0 a.length) (d := dSSignal) (i := k) (by omega) fun l hl hi hj => ?_ | (refine bd_is (α := Int) (Q := MkSignalSQ n k0 a.length) fun v hv => ?_; try simp (disch := omega) only [w64_id] at hv; subst hv) | refine bd_is (α := SSignal) (Q := MkSignalSQ n k0 a.length) fun e he => ?_)
    try simp (disch := omega) only [w64_id]
    refine ih _ ⟨k + 1, _, h, Prod.ext (by dsimp only; omega) (Prod.ext (by dsimp only; omega) rfl), by first | omega | (rw [List.length_set]; omega), fun j hj' => ?_⟩ (by dsimp only; omega)
    by_cases e : j = k
    · subst e
      first | (simp only [MkSignalS, *, Int.add_assoc, Int.reduceAdd, and_self]; done) | (simp only [MkSignalS, *, Int.add_assoc, Int.reduceAdd, and_self]; simp (disch := omega) only [w64_id, and_self]; done) | simp [MkSignalS, List.getD, h']
    · have := hm j (by omega)
      first | (have hall : l.getD j dSSignal = p.getD j dSSignal := by simp (disch := assumption) only [*]
               rw [hall]
               exact this) | simpa [MkSignalS, List.getD, List.getElem?_set, Ne.symm e] using this
  · have h' : ¬ k < p.length := by omega
    simp only [Int.ofNat_lt, h', decide_false, cond_false]
    have : k = a.length := by omega
    subst this
    exact ⟨p, rfl, hp, hm⟩
def MkBoolS (n : Nat) (k : Int) (x : Bool) : Prop := x = decide (Int.tmod k 3 = 0)
def MkBoolSQ (n : Nat) (k0 : Int) (m : Nat) (r : Option (Int × List Bool)) : Prop := ∃ a2 : List Bool, r = some (k0 + 1 * (m : Int), a2) ∧ a2.length = m ∧ ∀ i, i < m → MkBoolS n (k0 + 1 * (i : Int)) (a2.getD i false)
theorem laws_markBoolS_ok {n : Nat} (a : List Bool) (k0 : Int) (hk0 : 0 ≤ k0) (hb : k0 + 1 * (a.length : Int) ≤ 900000000) (hn : 1000000000 < n) : MkBoolSQ n k0 a.length (laws_markBoolS n a k0) := by
  unfold laws_markBoolS
  refine loopN_ind (fun x => a.length - x.2.1.toNat) (fun x => ∃ (k : Nat) (p : List Bool), k ≤ a.length ∧ x = (k0 + 1 * (k : Int), (k : Int), p) ∧ p.length = a.length ∧ ∀ i, i < k → MkBoolS n (k0 + 1 * (i : Int)) (p.getD i false))
    (fun x r => MkBoolSQ n k0 a.length r) ?_ n _ ⟨0, a, by omega, by simp, rfl, by omega⟩ (by simp; omega)
  rintro _ J ⟨k, p, hk, rfl, hp, hm⟩ ih
  unfold laws_markBoolS_L2
  by_cases h : k < a.length
  · have h' : k < p.length := by omega
    simp only [Int.ofNat_lt, h', decide_true, cond_true, Int.toNat_natCast, ix_nat h', chk_of]
    try simp (disch := omega) only [w64_id, Int.toNat_natCast, Int.add_assoc, Int.reduceAdd]
    try simp only [Option.bind_some, Int.add_assoc, Int.reduceAdd]
    repeat (first | refine ix_q (Q := MkBoolSQ n k0 a.length) (by omega) (by omega) ?_ | refine chk_q (Q := MkBoolSQ n k0 a.length) (decide_eq_true (by omega)) ?_ | refine bd_upd (Q := MkBoolSQ n k0 a.length) (d := false) (i := k) (by omega) fun l hl hi hj => ?_ | (refine bd_is (α := Int) (Q := MkBoolSQ n k0 a.length) fun v hv => ?_; try simp (disch := omega) only [w64_id] at hv; subst hv) | refine bd_is (α := Bool) (Q := MkBoolSQ n k0 a.length) fun e he => ?_)
    try simp (disch := omega) only [w64_id]
    refine ih _ ⟨k + 1, _, h, Prod.ext (by dsimp only; omega) (Prod.ext (by dsimp only; omega) rfl), by first | omega | (rw [List.length_set]; omega), fun j hj' => ?_⟩ (by dsimp only; omega)
    by_cases e : j = k
    · subst e
      first | (simp only [MkBoolS, *, Int.add_assoc, Int.reduceAdd, and_self]; done) | (simp only [MkBoolS, *, Int.add_assoc, Int.reduceAdd, and_self]; simp (disch := omega) only [w64_id, and_self]; done) | simp [MkBoolS, List.getD, h']
    · have := hm j (by omega)
      first | (have hall : l.getD j false = p.getD j false := by simp (disch := assumption) only [*]
               rw [hall]
               exact this) | simpa [MkBoolS, List.getD, List.getElem?_set, Ne.symm e] using this
  · have h' : ¬ k < p.length := by omega
    simp only [Int.ofNat_lt, h', decide_false, cond_false]
    have : k = a.length := by omega
    subst this
    exact ⟨p, rfl, hp, hm⟩
theorem laws_heldBoolS_ok {n : Nat} (a : List Bool) (k0 : Int) (hk0 : 0 ≤ k0) (hb : k0 + 1 * (a.length : Int) ≤ 900000000) (hn : 1000000000 < n) (ha : ∀ i, i < a.length → MkBoolS n (k0 + 1 * (i : Int)) (a.getD i false)) : laws_heldBoolS n a k0 = some (k0 + 1 * (a.length : Int)) := by
  unfold laws_heldBoolS
  refine loopN_ind (fun x => a.length - x.2.toNat) (fun x => ∃ (k : Nat), k ≤ a.length ∧ x = (k0 + 1 * (k : Int), (k : Int)))
    (fun x r => r = some (k0 + 1 * (a.length : Int))) ?_ n _ ⟨0, by omega, by simp⟩ (by simp; omega)
  rintro _ J ⟨k, hk, rfl⟩ ih
  unfold laws_heldBoolS_L2
  by_cases h : k < a.length
  · have e0 := ha k h; unfold MkBoolS at e0
    simp only [Int.ofNat_lt, h, decide_true, cond_true]
    simp (disch := omega) only [w64_id, ix_nat h, Int.toNat_natCast, bd_eq, Int.add_assoc, Int.reduceAdd, e0, decide_true, Bool.not_true, cond_false, Option.bind_some, beq_self_eq_true]
    refine Eq.trans ?_ (ih (k0 + 1 * ((k + 1 : Nat) : Int), ((k + 1 : Nat) : Int)) ⟨k + 1, h, rfl⟩ (by simp; omega))
    congr 2
    all_goals omega
  · have : k = a.length := by omega
    subst this
    simp
end Go.Sm
end

section
set_option linter.unusedSimpArgs false
set_option linter.deprecated false
set_option linter.unusedSectionVars false
set_option linter.unusedVariables false
set_option linter.unusedSimpArgs false
namespace Go.Sm
attribute [local irreducible] bd chk ix loopN
theorem in_spec6 (n : Nat) (x a b : Int) : spec_l1In n x a b = some (decide (a ≤ x ∧ x ≤ b)) := by
  unfold spec_l1In
  by_cases h0 : a ≤ x <;> by_cases h1 : x ≤ b <;> simp [h0, h1]
theorem in_impl6 (n : Nat) (x a b : Int) : impl_in n x a b = some (decide (a ≤ x ∧ x ≤ b)) := by
  unfold impl_in
  by_cases h0 : a ≤ x <;> by_cases h1 : x ≤ b <;> simp [h0, h1]
def hOk (h : SHoist) : Prop := (0 ≤ h.State ∧ h.State ≤ 3) ∧ (0 ≤ h.Lowest ∧ h.Lowest ≤ h.Height) ∧ (h.Height ≤ h.Highest ∧ h.Highest ≤ 10000) ∧ (0 ≤ h.Load ∧ h.Load ≤ 1000000) ∧ (0 ≤ h.Limit ∧ h.Limit ≤ 1000000) ∧ (0 ≤ h.Reset ∧ h.Reset ≤ 1)
instance (h : SHoist) : Decidable (hOk h) := by unfold hOk; exact inferInstance
theorem hoist_spec (n : Nat) (h : SHoist) : spec_HoistOk n h = some (decide (hOk h)) := by
  unfold spec_HoistOk
  simp only [in_spec6, Option.bind_some, bif_dec]
  by_cases a1 : 0 ≤ h.State ∧ h.State ≤ 3
  · by_cases a2 : 0 ≤ h.Lowest ∧ h.Lowest ≤ h.Height
    · by_cases a3 : h.Height ≤ h.Highest ∧ h.Highest ≤ 10000
      · by_cases a4 : 0 ≤ h.Load ∧ h.Load ≤ 1000000
        · by_cases a5 : 0 ≤ h.Limit ∧ h.Limit ≤ 1000000
          · rw [if_pos a1, if_pos a2, if_pos a3, if_pos a4, if_pos a5]
            refine congrArg some (decide_eq_decide.2 ?_)
            unfold hOk
            exact ⟨fun a6 => ⟨a1, a2, a3, a4, a5, a6⟩, fun h => h.2.2.2.2.2⟩
          · rw [if_pos a1, if_pos a2, if_pos a3, if_pos a4, if_neg a5, decide_eq_false (fun h : hOk _ => a5 h.2.2.2.2.1)]
        · rw [if_pos a1, if_pos a2, if_pos a3, if_neg a4, decide_eq_false (fun h : hOk _ => a4 h.2.2.2.1)]
      · rw [if_pos a1, if_pos a2, if_neg a3, decide_eq_false (fun h : hOk _ => a3 h.2.2.1)]
    · rw [if_pos a1, if_neg a2, decide_eq_false (fun h : hOk _ => a2 h.2.1)]
  · rw [if_neg a1, decide_eq_false (fun h : hOk _ => a1 h.1)]
theorem hoist_impl (n : Nat) (h : SHoist) : impl_HoistOk n h = some (decide (hOk h)) := by
  unfold impl_HoistOk
  simp only [in_impl6, Option.bind_some, bif_dec]
  by_cases a1 : 0 ≤ h.State ∧ h.State ≤ 3
  · by_cases a2 : 0 ≤ h.Lowest ∧ h.Lowest ≤ h.Height
    · by_cases a3 : h.Lowest ≤ h.Height ∧ h.Height ≤ h.Highest
      · by_cases a7 : h.Highest ≤ 10000
        · by_cases a4 : 0 ≤ h.Load ∧ h.Load ≤ 1000000
          · by_cases a5 : 0 ≤ h.Limit ∧ h.Limit ≤ 1000000
            · rw [if_pos a1, if_pos a2, if_pos a3, if_pos a7, if_pos a4, if_pos a5]
              refine congrArg some (decide_eq_decide.2 ?_)
              unfold hOk
              exact ⟨fun a6 => ⟨a1, a2, ⟨a3.2, a7⟩, a4, a5, a6⟩, fun h => h.2.2.2.2.2⟩
            · rw [if_pos a1, if_pos a2, if_pos a3, if_pos a7, if_pos a4, if_neg a5, decide_eq_false (fun h : hOk _ => a5 h.2.2.2.2.1)]
          · rw [if_pos a1, if_pos a2, if_pos a3, if_pos a7, if_neg a4, decide_eq_false (fun h : hOk _ => a4 h.2.2.2.1)]
        · rw [if_pos a1, if_pos a2, if_pos a3, if_neg a7, decide_eq_false (fun h : hOk _ => a7 h.2.2.1.2)]
      · rw [if_pos a1, if_pos a2, if_neg a3, decide_eq_false (fun h : hOk _ => a3 ⟨a2.2, h.2.2.1.1⟩)]
    · rw [if_pos a1, if_neg a2, decide_eq_false (fun h : hOk _ => a2 h.2.1)]
  · rw [if_neg a1, decide_eq_false (fun h : hOk _ => a1 h.1)]
theorem l20_eq (n : Nat) (h x : SHoist) (b : Bool) : spec_l20If n h x b = some (if b = true then (x, true) else (h, false)) := by cases b <;> rfl
theorem do_some (n : Nat) (h : SHoist) (s : SSignal) : ∃ r, spec_DoSignal n h s = some r := by
  refine Option.isSome_iff_exists.1 ?_
  unfold spec_DoSignal spec_DoSignal_k6 spec_DoSignal_k5 spec_DoSignal_k4 spec_DoSignal_k3 spec_DoSignal_k2 spec_DoSignal_k1 spec_DoSignal_k0
  simp only [l20_eq, hoist_spec, in_spec6, Option.bind_some, bif_not, bif_dec, bd_eq]
  simp only [apply_ite Option.isSome, Option.isSome_some, ite_self]
set_option maxHeartbeats 4000000 in
theorem do_eq (n : Nat) (h : SHoist) (s : SSignal) : impl_DoSignal n h s = spec_DoSignal n h s := by
  unfold spec_DoSignal impl_DoSignal
  simp only [hoist_spec, hoist_impl, in_spec6, in_impl6, Option.bind_some]
  by_cases hk : hOk h
  · by_cases hs : 1 ≤ s.Kind ∧ s.Kind ≤ 7
    · rw [decide_eq_true hk, decide_eq_true hs]
      simp only [Bool.not_true, cond_false]
      obtain ⟨St, Lo, He, Lw, Hi, Li, Re⟩ := h
      obtain ⟨K, M⟩ := s
      obtain ⟨⟨a1, a2⟩, ⟨a3, a4⟩, ⟨a5, a6⟩, ⟨a7, a8⟩, ⟨a9, a10⟩, a11, a12⟩ := hk
      obtain ⟨b1, b2⟩ := hs
      dsimp only at *
      have w1 : w64 (He + 1) = He + 1 := w64_id (by omega) (by omega)
      have w2 : w64 (He - 1) = He - 1 := w64_id (by omega) (by omega)
      have hK : K = 1 ∨ K = 2 ∨ K = 3 ∨ K = 4 ∨ K = 5 ∨ K = 6 ∨ K = 7 := by omega
      have hS : St = 0 ∨ St = 1 ∨ St = 2 ∨ St = 3 := by omega
      have hR : Re = 0 ∨ Re = 1 := by omega
      unfold spec_DoSignal_k6 spec_DoSignal_k5 spec_DoSignal_k4 spec_DoSignal_k3 spec_DoSignal_k2 spec_DoSignal_k1 spec_DoSignal_k0 impl_DoSignal_k3 impl_DoSignal_k2 impl_DoSignal_k1 impl_DoSignal_k0 spec_l20If
      rcases hK with rfl | rfl | rfl | rfl | rfl | rfl | rfl <;> rcases hS with rfl | rfl | rfl | rfl <;> rcases hR with rfl | rfl <;>
        simp (config := { decide := true }) only [bd_eq, bif_not, bif_dec, w1, w2, in_spec6, Option.bind_some, if_true, if_false, cond_true, cond_false, Bool.not_true, Bool.not_false] <;>
        (repeat' split) <;> first | rfl | omega | (simp only [Option.some.injEq, Prod.mk.injEq, SHoist.mk.injEq]; omega) | (simp; omega)
    · rw [decide_eq_true hk, decide_eq_false hs]
      rfl
  · rw [decide_eq_false hk]
    rfl
end Go.Sm
namespace Go.Sm
attribute [local irreducible] bd chk ix loopN
def doR (n : Nat) (h : SHoist) (s : SSignal) : SHoist × Bool := (spec_DoSignal n h s).getD (h, false)
theorem do_spec (n : Nat) (h : SHoist) (s : SSignal) : spec_DoSignal n h s = some (doR n h s) := by
  obtain ⟨r, hr⟩ := do_some n h s
  rw [doR, hr]
  rfl
theorem do_impl (n : Nat) (h : SHoist) (s : SSignal) : impl_DoSignal n h s = some (doR n h s) := (do_eq n h s).trans (do_spec n h s)
def runF (n : Nat) (h : SHoist) (l : List SSignal) : SHoist × List Bool := l.foldl (fun a s => ((doR n a.1 s).1, a.2 ++ [(doR n a.1 s).2])) (h, [])
def runR (n : Nat) (h : SHoist) (l : List SSignal) : SHoist × List Bool := if l.length ≤ 200 then runF n h l else (h, [])
theorem runF_succ (n : Nat) (h : SHoist) (l : List SSignal) {k : Nat} (hk : k < l.length) : runF n h (l.take (k + 1)) = ((doR n (runF n h (l.take k)).1 (l.getD k dSSignal)).1, (runF n h (l.take k)).2 ++ [(doR n (runF n h (l.take k)).1 (l.getD k dSSignal)).2]) := by
  unfold runF
  rw [take_succ_getD (d := dSSignal) hk, List.foldl_append]
  rfl
theorem runF_len (n : Nat) (h : SHoist) (l : List SSignal) : ∀ k, k ≤ l.length → (runF n h (l.take k)).2.length = k
  | 0, _ => rfl
  | k + 1, hk => by
    rw [runF_succ n h l (by omega)]
    show (_ ++ [_]).length = _
    have := runF_len n h l k (by omega)
    simp [this]
theorem run_spec {n : Nat} (h : SHoist) (l : List SSignal) (hl : l.length ≤ 1048576) (hn : 1000000000 < n) : spec_RunSignals n h l = some (runR n h l) := by
  unfold spec_RunSignals
  by_cases h2 : l.length ≤ 200
  · refine loopN_ind (fun x => l.length - x.1.toNat) (fun x => ∃ k : Nat, k ≤ l.length ∧ x = ((k : Int), runF n h (l.take k))) (fun x r => r = some (runR n h l)) ?_ n _ ⟨0, by omega, rfl⟩ (by simp; omega)
    rintro _ J ⟨k, hk, rfl⟩ ih
    unfold spec_RunSignals_L3
    by_cases hkl : k < l.length
    · have g := runF_len n h l k hk
      have h2' : (l.length : Int) ≤ 200 := by omega
      simp only [Int.ofNat_lt, hkl, h2', decide_true, cond_true, ix_nat hkl, Int.toNat_natCast, bd_eq, do_spec, Option.bind_some]
      rw [chk_dec (by simp; omega), w64_succ (by omega)]
      have key := ih (((k + 1 : Nat) : Int), runF n h (l.take (k + 1))) ⟨k + 1, hkl, rfl⟩ (by simp; omega)
      rw [runF_succ n h l hkl] at key
      exact key
    · have : k = l.length := by omega
      subst this
      simp only [Int.lt_irrefl, decide_false, cond_false, List.take_length]
      rw [runR, if_pos h2]
  · refine loopN_ind (fun x => 0) (fun x => x = (0, h, [])) (fun x r => r = some (runR n h l)) ?_ n _ rfl (by omega)
    rintro _ J rfl ih
    unfold spec_RunSignals_L3
    have e1 : decide ((0 : Int) < (l.length : Int)) = true := decide_eq_true (by omega)
    have e2 : decide ((l.length : Int) ≤ 200) = false := decide_eq_false (by omega)
    dsimp only
    rw [e1, e2, runR, if_neg h2]
    rfl
theorem own_bool6 (n : Nat) (l : List Bool) (h : l.length ≤ 1048576) : impl_own_bool n l = some l := by
  unfold impl_own_bool
  rw [chk_dec (by omega), chk_dec (by omega), chk_dec (by omega)]
theorem run_impl {n : Nat} (h : SHoist) (l : List SSignal) (hl : l.length ≤ 1048576) (hn : 1000000000 < n) : impl_RunSignals n h l = some (runR n h l) := by
  unfold impl_RunSignals
  rw [bif_dec]
  by_cases h2 : l.length ≤ 200
  · rw [if_neg (by omega)]
    unfold impl_RunSignals_k0
    refine loopN_ind (fun x => l.length - x.1.toNat) (fun x => ∃ k : Nat, k ≤ l.length ∧ x = ((k : Int), runF n h (l.take k))) (fun x r => r = some (runR n h l)) ?_ n _ ⟨0, by omega, rfl⟩ (by simp; omega)
    rintro _ J ⟨k, hk, rfl⟩ ih
    have g := runF_len n h l k hk
    unfold impl_RunSignals_L5
    by_cases hkl : k < l.length
    · simp only [Int.ofNat_lt, hkl, decide_true, cond_true, ix_nat hkl, Int.toNat_natCast, bd_eq, do_impl, Option.bind_some]
      rw [chk_dec (by simp; omega), w64_succ (by omega)]
      have key := ih (((k + 1 : Nat) : Int), runF n h (l.take (k + 1))) ⟨k + 1, hkl, rfl⟩ (by simp; omega)
      rw [runF_succ n h l hkl] at key
      exact key
    · have : k = l.length := by omega
      subst this
      simp only [Int.lt_irrefl, decide_false, cond_false]
      rw [own_bool6 n _ (by omega), Option.bind_some, List.take_length, runR, if_pos h2]
  · rw [if_pos (by omega), runR, if_neg h2]
theorem runR_len (n : Nat) (h : SHoist) (l : List SSignal) : (runR n h l).2.length ≤ 200 := by
  unfold runR
  split
  · have := runF_len n h l l.length (Nat.le_refl _)
    rw [List.take_length] at this
    omega
  · exact Nat.zero_le _
theorem laws_FnExactRunSignals_true (aH0 : SHoist) (aList1 : List SSignal) (h0 : wfSHoist aH0) (h1 : (aList1.length ≤ 9223372036854775807 ∧ ∀ y ∈ aList1, wfSSignal y)) : ∃ n, laws_FnExactRunSignals n aH0 aList1 = some true := by
  refine ⟨1000000001, ?_⟩
  generalize hN : (1000000001 : Nat) = n
  have hn : 1000000000 < n := by omega
  unfold laws_FnExactRunSignals
  obtain ⟨r, hr1, hr2, hr3⟩ := laws_szSignalS_ok (n := n) aList1 (left := 1048576) h1 (by omega) (by omega) hn
  rw [hr1, Option.bind_some, bif_dec]
  split
  · rfl
  · have hl1 : aList1.length ≤ 1048576 := by have := hr3 (by omega); omega
    have c1 := runR_len n aH0 aList1
    have hS := run_spec (n := n) aH0 aList1 hl1 hn
    have hI := run_impl (n := n) aH0 aList1 hl1 hn
    generalize runR n aH0 aList1 = R at *
    obtain ⟨R1, R2⟩ := R
    dsimp only at c1
    obtain ⟨u1, m1, m2, m3⟩ := laws_markSignalS_ok (n := n) aList1 1 (by omega) (by omega) hn
    obtain ⟨v1, p1, p2, p3⟩ := laws_markBoolS_ok (n := n) R2 1 (by omega) (by omega) hn
    have q1 := laws_heldBoolS_ok (n := n) v1 1 (by omega) (by omega) hn (by rw [p2]; exact p3)
    rw [p2] at q1
    have d1 : decide (1 + 2 * (aList1.length : Int) < 0) = false := decide_eq_false (by omega)
    have d2 : decide (1 + 1 * (R2.length : Int) < 0) = false := decide_eq_false (by omega)
    unfold laws_FnExactRunSignals_k3 laws_FnExactRunSignals_k2 laws_FnExactRunSignals_k1 laws_FnExactRunSignals_k0
    simp only [laws_toHoist_eq, laws_toSignalS_eq aList1 hl1 hn, hS, hI, Option.bind_some, laws_eqHoist_eq, laws_eqSignalS_eq aList1 hl1 hn, laws_eqBoolS_eq R2 (show _ ≤ 1048576 by omega) hn,
      m1, p1, q1, d1, d2, decide_true, Bool.not_true, cond_false, cond_true]
end Go.Sm
end
