import Derived.Test.YtjilmfkglikoeaaEngD
import Derived.Test.YtjilmfkglikoeaaB3Fn
import Derived.Test.YtjilmfkglikoeaaProg
/- The program's types as the evaluator sees them. -/
set_option linter.unusedSimpArgs false
set_option linter.deprecated false
set_option linter.unusedSectionVars false
set_option linter.unusedVariables false
set_option maxRecDepth 100000
open Go Go.Proofs
noncomputable section
namespace Go.Sm.B3
def UI : Nat → (α : Type) × α
  | 3 => ⟨Int, (0 : Int)⟩
  | 4 => ⟨Bool, false⟩
  | 5 => ⟨Int, (0 : Int)⟩
  | 22 => ⟨List Int, []⟩
  | 24 => ⟨List (List Int), []⟩
  | 26 => ⟨SHull, dSHull⟩
  | 29 => ⟨SMass, dSMass⟩
  | 30 => ⟨SMass, dSMass⟩
  | 32 => ⟨List SMass, []⟩
  | 33 => ⟨SFrac, dSFrac⟩
  | 34 => ⟨SFrac, dSFrac⟩
  | 38 => ⟨SLoad, dSLoad⟩
  | 55 => ⟨List Int, []⟩
  | 154 => ⟨List STank, []⟩
  | 157 => ⟨STank, dSTank⟩
  | 239 => ⟨Sl1Cur, dSl1Cur⟩
  | _ => ⟨Unit, ()⟩
abbrev U (t : Nat) : Type := (UI t).1
def dflt (t : Nat) : U t := (UI t).2
def dget : (t : Nat) → U t → List (D U)
  | 3, x => (fun (x : Int) => ([.int .i64 x] : List (D U))) x
  | 4, x => (fun (x : Bool) => ([.bool x] : List (D U))) x
  | 5, x => (fun (x : Int) => ([.int .u8 x] : List (D U))) x
  | 22, x => (fun (x : List Int) => ([.arr 5 x] : List (D U))) x
  | 24, x => (fun (x : List (List Int)) => ([.arr 55 x] : List (D U))) x
  | 26, x => (fun (x : SHull) => ([.int .i64 x.Step, .int .i64 x.Rise, .arr 55 x.Half] : List (D U))) x
  | 29, x => (fun (x : SMass) => ([.int .i64 x.Weight, .int .i64 x.X, .int .i64 x.Z] : List (D U))) x
  | 30, x => (fun (x : SMass) => ([.int .i64 x.Weight, .int .i64 x.X, .int .i64 x.Z] : List (D U))) x
  | 32, x => (fun (x : List SMass) => ([.arr 30 x] : List (D U))) x
  | 33, x => (fun (x : SFrac) => ([.int .i64 x.Num, .int .i64 x.Den] : List (D U))) x
  | 34, x => (fun (x : SFrac) => ([.int .i64 x.Num, .int .i64 x.Den] : List (D U))) x
  | 38, x => (fun (x : SLoad) => ([.int .i64 x.Weight, .int .i64 x.MX, .int .i64 x.MZ] : List (D U))) x
  | 55, x => (fun (x : List Int) => ([.arr 3 x] : List (D U))) x
  | 154, x => (fun (x : List STank) => ([.arr 157 x] : List (D U))) x
  | 157, x => (fun (x : STank) => ([.int .i64 x.Length, .int .i64 x.Breadth] : List (D U))) x
  | 239, x => (fun (x : Sl1Cur) => ([.arr 5 x.b, .int .i64 x.i, .int .i64 x.h] : List (D U))) x
  | _, _ => []
def dset3 (ds : List (D U)) : Option Int := match ds with
  | [c0] => (intU .i64 c0).bind fun a0 => some (a0)
  | _ => none
theorem get3 {ds : List (D U)} {x : U 3} (h : dset3 ds = some x) : dget 3 x = ds := by
  unfold dset3 at h
  split at h
  · obtain ⟨a0, h0, h⟩ := Option.bind_eq_some_iff.1 h
    cases h
    rw [intU_eq h0]
    rfl
  · cases h
def dset4 (ds : List (D U)) : Option Bool := match ds with
  | [c0] => (boolU c0).bind fun a0 => some (a0)
  | _ => none
theorem get4 {ds : List (D U)} {x : U 4} (h : dset4 ds = some x) : dget 4 x = ds := by
  unfold dset4 at h
  split at h
  · obtain ⟨a0, h0, h⟩ := Option.bind_eq_some_iff.1 h
    cases h
    rw [boolU_eq h0]
    rfl
  · cases h
def dset5 (ds : List (D U)) : Option Int := match ds with
  | [c0] => (intU .u8 c0).bind fun a0 => some (a0)
  | _ => none
theorem get5 {ds : List (D U)} {x : U 5} (h : dset5 ds = some x) : dget 5 x = ds := by
  unfold dset5 at h
  split at h
  · obtain ⟨a0, h0, h⟩ := Option.bind_eq_some_iff.1 h
    cases h
    rw [intU_eq h0]
    rfl
  · cases h
def dset22 (ds : List (D U)) : Option (List Int) := match ds with
  | [c0] => (arrU 5 c0).bind fun a0 => some (a0)
  | _ => none
theorem get22 {ds : List (D U)} {x : U 22} (h : dset22 ds = some x) : dget 22 x = ds := by
  unfold dset22 at h
  split at h
  · obtain ⟨a0, h0, h⟩ := Option.bind_eq_some_iff.1 h
    cases h
    rw [arrU_eq h0]
    rfl
  · cases h
def dset24 (ds : List (D U)) : Option (List (List Int)) := match ds with
  | [c0] => (arrU 55 c0).bind fun a0 => some (a0)
  | _ => none
theorem get24 {ds : List (D U)} {x : U 24} (h : dset24 ds = some x) : dget 24 x = ds := by
  unfold dset24 at h
  split at h
  · obtain ⟨a0, h0, h⟩ := Option.bind_eq_some_iff.1 h
    cases h
    rw [arrU_eq h0]
    rfl
  · cases h
def dset26 (ds : List (D U)) : Option SHull := match ds with
  | [c0, c1, c2] => (intU .i64 c0).bind fun a0 => (intU .i64 c1).bind fun a1 => (arrU 55 c2).bind fun a2 => some ((⟨a0, a1, a2⟩ : SHull))
  | _ => none
theorem get26 {ds : List (D U)} {x : U 26} (h : dset26 ds = some x) : dget 26 x = ds := by
  unfold dset26 at h
  split at h
  · obtain ⟨a0, h0, h⟩ := Option.bind_eq_some_iff.1 h
    obtain ⟨a1, h1, h⟩ := Option.bind_eq_some_iff.1 h
    obtain ⟨a2, h2, h⟩ := Option.bind_eq_some_iff.1 h
    cases h
    rw [intU_eq h0, intU_eq h1, arrU_eq h2]
    rfl
  · cases h
def dset29 (ds : List (D U)) : Option SMass := match ds with
  | [c0, c1, c2] => (intU .i64 c0).bind fun a0 => (intU .i64 c1).bind fun a1 => (intU .i64 c2).bind fun a2 => some ((⟨a0, a1, a2⟩ : SMass))
  | _ => none
theorem get29 {ds : List (D U)} {x : U 29} (h : dset29 ds = some x) : dget 29 x = ds := by
  unfold dset29 at h
  split at h
  · obtain ⟨a0, h0, h⟩ := Option.bind_eq_some_iff.1 h
    obtain ⟨a1, h1, h⟩ := Option.bind_eq_some_iff.1 h
    obtain ⟨a2, h2, h⟩ := Option.bind_eq_some_iff.1 h
    cases h
    rw [intU_eq h0, intU_eq h1, intU_eq h2]
    rfl
  · cases h
def dset30 (ds : List (D U)) : Option SMass := match ds with
  | [c0, c1, c2] => (intU .i64 c0).bind fun a0 => (intU .i64 c1).bind fun a1 => (intU .i64 c2).bind fun a2 => some ((⟨a0, a1, a2⟩ : SMass))
  | _ => none
theorem get30 {ds : List (D U)} {x : U 30} (h : dset30 ds = some x) : dget 30 x = ds := by
  unfold dset30 at h
  split at h
  · obtain ⟨a0, h0, h⟩ := Option.bind_eq_some_iff.1 h
    obtain ⟨a1, h1, h⟩ := Option.bind_eq_some_iff.1 h
    obtain ⟨a2, h2, h⟩ := Option.bind_eq_some_iff.1 h
    cases h
    rw [intU_eq h0, intU_eq h1, intU_eq h2]
    rfl
  · cases h
def dset32 (ds : List (D U)) : Option (List SMass) := match ds with
  | [c0] => (arrU 30 c0).bind fun a0 => some (a0)
  | _ => none
theorem get32 {ds : List (D U)} {x : U 32} (h : dset32 ds = some x) : dget 32 x = ds := by
  unfold dset32 at h
  split at h
  · obtain ⟨a0, h0, h⟩ := Option.bind_eq_some_iff.1 h
    cases h
    rw [arrU_eq h0]
    rfl
  · cases h
def dset33 (ds : List (D U)) : Option SFrac := match ds with
  | [c0, c1] => (intU .i64 c0).bind fun a0 => (intU .i64 c1).bind fun a1 => some ((⟨a0, a1⟩ : SFrac))
  | _ => none
theorem get33 {ds : List (D U)} {x : U 33} (h : dset33 ds = some x) : dget 33 x = ds := by
  unfold dset33 at h
  split at h
  · obtain ⟨a0, h0, h⟩ := Option.bind_eq_some_iff.1 h
    obtain ⟨a1, h1, h⟩ := Option.bind_eq_some_iff.1 h
    cases h
    rw [intU_eq h0, intU_eq h1]
    rfl
  · cases h
def dset34 (ds : List (D U)) : Option SFrac := match ds with
  | [c0, c1] => (intU .i64 c0).bind fun a0 => (intU .i64 c1).bind fun a1 => some ((⟨a0, a1⟩ : SFrac))
  | _ => none
theorem get34 {ds : List (D U)} {x : U 34} (h : dset34 ds = some x) : dget 34 x = ds := by
  unfold dset34 at h
  split at h
  · obtain ⟨a0, h0, h⟩ := Option.bind_eq_some_iff.1 h
    obtain ⟨a1, h1, h⟩ := Option.bind_eq_some_iff.1 h
    cases h
    rw [intU_eq h0, intU_eq h1]
    rfl
  · cases h
def dset38 (ds : List (D U)) : Option SLoad := match ds with
  | [c0, c1, c2] => (intU .i64 c0).bind fun a0 => (intU .i64 c1).bind fun a1 => (intU .i64 c2).bind fun a2 => some ((⟨a0, a1, a2⟩ : SLoad))
  | _ => none
theorem get38 {ds : List (D U)} {x : U 38} (h : dset38 ds = some x) : dget 38 x = ds := by
  unfold dset38 at h
  split at h
  · obtain ⟨a0, h0, h⟩ := Option.bind_eq_some_iff.1 h
    obtain ⟨a1, h1, h⟩ := Option.bind_eq_some_iff.1 h
    obtain ⟨a2, h2, h⟩ := Option.bind_eq_some_iff.1 h
    cases h
    rw [intU_eq h0, intU_eq h1, intU_eq h2]
    rfl
  · cases h
def dset55 (ds : List (D U)) : Option (List Int) := match ds with
  | [c0] => (arrU 3 c0).bind fun a0 => some (a0)
  | _ => none
theorem get55 {ds : List (D U)} {x : U 55} (h : dset55 ds = some x) : dget 55 x = ds := by
  unfold dset55 at h
  split at h
  · obtain ⟨a0, h0, h⟩ := Option.bind_eq_some_iff.1 h
    cases h
    rw [arrU_eq h0]
    rfl
  · cases h
def dset154 (ds : List (D U)) : Option (List STank) := match ds with
  | [c0] => (arrU 157 c0).bind fun a0 => some (a0)
  | _ => none
theorem get154 {ds : List (D U)} {x : U 154} (h : dset154 ds = some x) : dget 154 x = ds := by
  unfold dset154 at h
  split at h
  · obtain ⟨a0, h0, h⟩ := Option.bind_eq_some_iff.1 h
    cases h
    rw [arrU_eq h0]
    rfl
  · cases h
def dset157 (ds : List (D U)) : Option STank := match ds with
  | [c0, c1] => (intU .i64 c0).bind fun a0 => (intU .i64 c1).bind fun a1 => some ((⟨a0, a1⟩ : STank))
  | _ => none
theorem get157 {ds : List (D U)} {x : U 157} (h : dset157 ds = some x) : dget 157 x = ds := by
  unfold dset157 at h
  split at h
  · obtain ⟨a0, h0, h⟩ := Option.bind_eq_some_iff.1 h
    obtain ⟨a1, h1, h⟩ := Option.bind_eq_some_iff.1 h
    cases h
    rw [intU_eq h0, intU_eq h1]
    rfl
  · cases h
def dset239 (ds : List (D U)) : Option Sl1Cur := match ds with
  | [c0, c1, c2] => (arrU 5 c0).bind fun a0 => (intU .i64 c1).bind fun a1 => (intU .i64 c2).bind fun a2 => some ((⟨a0, a1, a2⟩ : Sl1Cur))
  | _ => none
theorem get239 {ds : List (D U)} {x : U 239} (h : dset239 ds = some x) : dget 239 x = ds := by
  unfold dset239 at h
  split at h
  · obtain ⟨a0, h0, h⟩ := Option.bind_eq_some_iff.1 h
    obtain ⟨a1, h1, h⟩ := Option.bind_eq_some_iff.1 h
    obtain ⟨a2, h2, h⟩ := Option.bind_eq_some_iff.1 h
    cases h
    rw [arrU_eq h0, intU_eq h1, intU_eq h2]
    rfl
  · cases h
def castU {t t2 : Nat} (h : t2 = t) (x : Option (U t)) : Option (U t2) := h ▸ x
def dset (t : Nat) (ds : List (D U)) : Option (U t) :=
  if h : t = 3 then castU h (dset3 ds) else
  if h : t = 4 then castU h (dset4 ds) else
  if h : t = 5 then castU h (dset5 ds) else
  if h : t = 22 then castU h (dset22 ds) else
  if h : t = 24 then castU h (dset24 ds) else
  if h : t = 26 then castU h (dset26 ds) else
  if h : t = 29 then castU h (dset29 ds) else
  if h : t = 30 then castU h (dset30 ds) else
  if h : t = 32 then castU h (dset32 ds) else
  if h : t = 33 then castU h (dset33 ds) else
  if h : t = 34 then castU h (dset34 ds) else
  if h : t = 38 then castU h (dset38 ds) else
  if h : t = 55 then castU h (dset55 ds) else
  if h : t = 154 then castU h (dset154 ds) else
  if h : t = 157 then castU h (dset157 ds) else
  if h : t = 239 then castU h (dset239 ds) else
  none
def ty0 : Nat → Ty
  | 3 => .int .i64
  | 4 => .bool
  | 5 => .int .u8
  | 22 => .slice 5
  | 24 => .slice 55
  | 26 => .struct [(0, 3), (1, 3), (2, 24)]
  | 29 => .struct [(0, 3), (1, 3), (2, 3)]
  | 30 => .struct [(0, 3), (1, 3), (2, 3)]
  | 32 => .slice 30
  | 33 => .struct [(0, 3), (1, 3)]
  | 34 => .struct [(0, 3), (1, 3)]
  | 38 => .struct [(0, 3), (1, 3), (2, 3)]
  | 55 => .slice 3
  | 154 => .slice 157
  | 157 => .struct [(0, 3), (1, 3)]
  | 239 => .struct [(0, 22), (1, 3), (2, 3)]
  | 150 => .ptr 239
  | _ => .other
def ty (t : Nat) : Ty := bif Nat.ble 100000 t then .ref (t - 100000) else ty0 t
def size : Nat → Nat
  | 3 => 1
  | 4 => 1
  | 5 => 1
  | 22 => 1
  | 24 => 1
  | 26 => 3
  | 29 => 3
  | 30 => 3
  | 32 => 1
  | 33 => 2
  | 34 => 2
  | 38 => 3
  | 55 => 1
  | 154 => 1
  | 157 => 2
  | 239 => 3
  | _ => 0
def bytes : Nat → Nat
  | 3 => 8
  | 4 => 1
  | 5 => 1
  | 22 => 24
  | 24 => 24
  | 26 => 40
  | 29 => 24
  | 30 => 24
  | 32 => 24
  | 33 => 16
  | 34 => 16
  | 38 => 24
  | 55 => 24
  | 154 => 24
  | 157 => 16
  | 239 => 40
  | _ => 0
def zero : Nat → List Value
  | 3 => [.int .i64 0]
  | 4 => [.bool false]
  | 5 => [.int .u8 0]
  | 22 => [.slice none 0 0]
  | 24 => [.slice none 0 0]
  | 26 => [.int .i64 0, .int .i64 0, .slice none 0 0]
  | 29 => [.int .i64 0, .int .i64 0, .int .i64 0]
  | 30 => [.int .i64 0, .int .i64 0, .int .i64 0]
  | 32 => [.slice none 0 0]
  | 33 => [.int .i64 0, .int .i64 0]
  | 34 => [.int .i64 0, .int .i64 0]
  | 38 => [.int .i64 0, .int .i64 0, .int .i64 0]
  | 55 => [.slice none 0 0]
  | 154 => [.slice none 0 0]
  | 157 => [.int .i64 0, .int .i64 0]
  | 239 => [.slice none 0 0, .int .i64 0, .int .i64 0]
  | _ => []
def ceq (t : Nat) : Bool := Nat.beq t 34
def sgs : List (Nat × Sig) := [(3, ⟨[22], [.ro], .own⟩),
  (15, ⟨[22], [.ro], .own⟩),
  (16, ⟨[22], [.ro], .own⟩),
  (17, ⟨[22, 3], [.ro, .ro], .own⟩),
  (18, ⟨[26, 3, 32, 154], [.ro, .ro, .ro, .ro], .own⟩),
  (19, ⟨[32], [.ro], .own⟩),
  (20, ⟨[26, 3], [.ro, .ro], .own⟩),
  (21, ⟨[34, 34], [.ro, .ro], .own⟩),
  (87, ⟨[22], [.ro], .shal⟩),
  (88, ⟨[150], [.rwv], .own⟩),
  (89, ⟨[150, 3], [.rwv, .ro], .own⟩),
  (90, ⟨[26, 3], [.ro, .ro], .own⟩),
  (91, ⟨[154], [.ro], .own⟩),
  (92, ⟨[3, 3], [.ro, .ro], .own⟩),
  (93, ⟨[26, 3], [.ro, .ro], .own⟩),
  (94, ⟨[26, 3], [.ro, .ro], .own⟩),
  (95, ⟨[32], [.ro], .own⟩),
  (96, ⟨[55], [.ro], .own⟩),
  (97, ⟨[26, 3], [.ro, .ro], .own⟩),
  (100, ⟨[3, 3, 3], [.ro, .ro, .ro], .own⟩),
  (119, ⟨[3, 3, 3], [.ro, .ro, .ro], .own⟩),
  (120, ⟨[55, 3, 3], [.ro, .ro, .ro], .own⟩),
  (123, ⟨[3], [.ro], .own⟩),
  (158, ⟨[55, 178], [.ro, .ro], .own⟩),
  (175, ⟨[150, 3], [.rwv, .ro], .own⟩),
  (176, ⟨[150], [.rwv], .own⟩),
  (177, ⟨[55], [.ro], .own⟩),
  (178, ⟨[26, 3], [.ro, .ro], .own⟩),
  (179, ⟨[154, 243], [.ro, .ro], .own⟩),
  (180, ⟨[157], [.ro], .own⟩),
  (181, ⟨[3, 3], [.ro, .ro], .own⟩),
  (182, ⟨[26, 3], [.ro, .ro], .own⟩),
  (183, ⟨[26, 3], [.ro, .ro], .own⟩),
  (184, ⟨[26, 3, 244], [.ro, .ro, .ro], .own⟩),
  (185, ⟨[3, 3], [.ro, .ro], .own⟩),
  (186, ⟨[32, 248], [.ro, .ro], .own⟩),
  (187, ⟨[30], [.ro], .own⟩),
  (188, ⟨[26, 3], [.ro, .ro], .own⟩),
  (189, ⟨[26], [.ro], .own⟩),
  (190, ⟨[26], [.ro], .own⟩),
  (196, ⟨[3, 100003, 100003], [.ro, .ro, .ro], .own⟩),
  (222, ⟨[55, 178], [.ro, .ro], .own⟩),
  (235, ⟨[154, 243], [.ro, .ro], .own⟩),
  (236, ⟨[3, 3], [.ro, .ro], .own⟩),
  (237, ⟨[32, 248], [.ro, .ro], .own⟩)]
def lookS (f : Nat) : List (Nat × Sig) → Sig
  | [] => ⟨[], [], .own⟩
  | (g, s) :: r => bif Nat.beq f g then s else lookS f r
def sg (f : Nat) : Sig := lookS f sgs
def cap (f : Nat) : List Nat := bif Nat.beq f 196 then [100003, 100003] else []
def T : Tbl := { U := U, ty := ty, size := size, bytes := bytes, zero := zero, dget := dget, dset := dset, dflt := dflt, ceq := ceq, keq := fun _ _ _ => false, sg := sg, cap := cap }
theorem t_len : ∀ t x, (dget t x).length = size t := by
  intro t x
  unfold dget size
  split
  · rfl
  · rfl
  · rfl
  · rfl
  · rfl
  · rfl
  · rfl
  · rfl
  · rfl
  · rfl
  · rfl
  · rfl
  · rfl
  · rfl
  · rfl
  · rfl
  · rename_i h
    split <;> first | rfl | exact absurd rfl (h _) | simp_all
theorem t_get : ∀ t ds x, dset t ds = some x → dget t x = ds := by
  intro t ds x h
  by_cases e3 : t = 3
  · subst e3; exact get3 (show dset3 ds = some x from h)
  by_cases e4 : t = 4
  · subst e4; exact get4 (show dset4 ds = some x from h)
  by_cases e5 : t = 5
  · subst e5; exact get5 (show dset5 ds = some x from h)
  by_cases e22 : t = 22
  · subst e22; exact get22 (show dset22 ds = some x from h)
  by_cases e24 : t = 24
  · subst e24; exact get24 (show dset24 ds = some x from h)
  by_cases e26 : t = 26
  · subst e26; exact get26 (show dset26 ds = some x from h)
  by_cases e29 : t = 29
  · subst e29; exact get29 (show dset29 ds = some x from h)
  by_cases e30 : t = 30
  · subst e30; exact get30 (show dset30 ds = some x from h)
  by_cases e32 : t = 32
  · subst e32; exact get32 (show dset32 ds = some x from h)
  by_cases e33 : t = 33
  · subst e33; exact get33 (show dset33 ds = some x from h)
  by_cases e34 : t = 34
  · subst e34; exact get34 (show dset34 ds = some x from h)
  by_cases e38 : t = 38
  · subst e38; exact get38 (show dset38 ds = some x from h)
  by_cases e55 : t = 55
  · subst e55; exact get55 (show dset55 ds = some x from h)
  by_cases e154 : t = 154
  · subst e154; exact get154 (show dset154 ds = some x from h)
  by_cases e157 : t = 157
  · subst e157; exact get157 (show dset157 ds = some x from h)
  by_cases e239 : t = 239
  · subst e239; exact get239 (show dset239 ds = some x from h)
  unfold dset at h
  rw [dif_neg e3, dif_neg e4, dif_neg e5, dif_neg e22, dif_neg e24, dif_neg e26, dif_neg e29, dif_neg e30, dif_neg e32, dif_neg e33, dif_neg e34, dif_neg e38, dif_neg e55, dif_neg e154, dif_neg e157, dif_neg e239] at h
  cases h
theorem t_pat : ∀ t x, (dget t x).map D.isArr = (dget t (dflt t)).map D.isArr := by
  intro t x
  unfold dget
  split
  · rfl
  · rfl
  · rfl
  · rfl
  · rfl
  · rfl
  · rfl
  · rfl
  · rfl
  · rfl
  · rfl
  · rfl
  · rfl
  · rfl
  · rfl
  · rfl
  · rename_i h
    split <;> first | rfl | exact absurd rfl (h _) | simp_all
theorem t_slice : ∀ t e, ty t = .slice e → Try.prog.underlying t = some (.slice e) := by
  intro t e h
  unfold ty at h
  cases hb : Nat.ble 100000 t <;> rw [hb] at h
  · simp only [cond_false] at h
    unfold ty0 at h
    split at h
    · cases h
    · cases h
    · cases h
    · cases h; exact Try.underlying22
    · cases h; exact Try.underlying24
    · cases h
    · cases h
    · cases h
    · cases h; exact Try.underlying32
    · cases h
    · cases h
    · cases h
    · cases h; exact Try.underlying55
    · cases h; exact Try.underlying154
    · cases h
    · cases h
    · cases h
    · cases h
  · cases h
theorem t_arr : ∀ t n e, ty t = .arr n e → Try.prog.underlying t = some (.array n e) := by
  intro t n e h
  unfold ty at h
  cases hb : Nat.ble 100000 t <;> rw [hb] at h
  · simp only [cond_false] at h
    unfold ty0 at h
    split at h
    · cases h
    · cases h
    · cases h
    · cases h
    · cases h
    · cases h
    · cases h
    · cases h
    · cases h
    · cases h
    · cases h
    · cases h
    · cases h
    · cases h
    · cases h
    · cases h
    · cases h
    · cases h
  · cases h
theorem t_str : ∀ t, ty t = .str → Try.prog.underlying t = some .string := by
  intro t h
  unfold ty at h
  cases hb : Nat.ble 100000 t <;> rw [hb] at h
  · simp only [cond_false] at h
    unfold ty0 at h
    split at h
    · cases h
    · cases h
    · cases h
    · cases h
    · cases h
    · cases h
    · cases h
    · cases h
    · cases h
    · cases h
    · cases h
    · cases h
    · cases h
    · cases h
    · cases h
    · cases h
    · cases h
    · cases h
  · cases h
theorem t_bool : ∀ t, ty t = .bool → Try.prog.underlying t = some .bool := by
  intro t h
  unfold ty at h
  cases hb : Nat.ble 100000 t <;> rw [hb] at h
  · simp only [cond_false] at h
    unfold ty0 at h
    split at h
    · cases h
    · exact Try.underlying4
    · cases h
    · cases h
    · cases h
    · cases h
    · cases h
    · cases h
    · cases h
    · cases h
    · cases h
    · cases h
    · cases h
    · cases h
    · cases h
    · cases h
    · cases h
    · cases h
  · cases h
theorem t_int : ∀ t k, ty t = .int k → Try.prog.underlying t = some (.int k) := by
  intro t k h
  unfold ty at h
  cases hb : Nat.ble 100000 t <;> rw [hb] at h
  · simp only [cond_false] at h
    unfold ty0 at h
    split at h
    · cases h; exact Try.underlying3
    · cases h
    · cases h; exact Try.underlying5
    · cases h
    · cases h
    · cases h
    · cases h
    · cases h
    · cases h
    · cases h
    · cases h
    · cases h
    · cases h
    · cases h
    · cases h
    · cases h
    · cases h
    · cases h
  · cases h
theorem t_intC : ∀ t k, ty t = .int k → ∀ x, ∃ n, dget t x = [.int k n] := by
  intro t k h
  unfold ty at h
  cases hb : Nat.ble 100000 t <;> rw [hb] at h
  · simp only [cond_false] at h
    unfold ty0 at h
    split at h
    · cases h; exact fun x => ⟨x, rfl⟩
    · cases h
    · cases h; exact fun x => ⟨x, rfl⟩
    · cases h
    · cases h
    · cases h
    · cases h
    · cases h
    · cases h
    · cases h
    · cases h
    · cases h
    · cases h
    · cases h
    · cases h
    · cases h
    · cases h
    · cases h
  · cases h
theorem t_ptr : ∀ t e, ty t = .ptr e → Try.prog.underlying t = some (.pointer e) := by
  intro t e h
  unfold ty at h
  cases hb : Nat.ble 100000 t <;> rw [hb] at h
  · simp only [cond_false] at h
    unfold ty0 at h
    split at h
    · cases h
    · cases h
    · cases h
    · cases h
    · cases h
    · cases h
    · cases h
    · cases h
    · cases h
    · cases h
    · cases h
    · cases h
    · cases h
    · cases h
    · cases h
    · cases h
    · cases h; exact Try.underlying150
    · cases h
  · cases h
theorem t_map : ∀ t k e, ty t = .map k e → Try.prog.underlying t = some (.map k e) := by
  intro t k e h
  unfold ty at h
  cases hb : Nat.ble 100000 t <;> rw [hb] at h
  · simp only [cond_false] at h
    unfold ty0 at h
    split at h
    · cases h
    · cases h
    · cases h
    · cases h
    · cases h
    · cases h
    · cases h
    · cases h
    · cases h
    · cases h
    · cases h
    · cases h
    · cases h
    · cases h
    · cases h
    · cases h
    · cases h
    · cases h
  · cases h
theorem t_struct : ∀ t fs, ty t = .struct fs → ∃ fields : Array Field, Try.prog.underlying t = some (.struct fields) ∧ fs = fields.toList.map (fun f => (f.offset, f.type)) ∧ (∀ f ∈ fields.toList, 0 < size f.type ∧ f.name ≠ "_") := by
  intro t fs h
  unfold ty at h
  cases hb : Nat.ble 100000 t <;> rw [hb] at h
  · simp only [cond_false] at h
    unfold ty0 at h
    split at h
    · cases h
    · cases h
    · cases h
    · cases h
    · cases h
    · cases h; exact ⟨_, Try.underlying26, rfl, fchk_ok (by rfl)⟩
    · cases h; exact ⟨_, Try.underlying29, rfl, fchk_ok (by rfl)⟩
    · cases h; exact ⟨_, Try.underlying30, rfl, fchk_ok (by rfl)⟩
    · cases h
    · cases h; exact ⟨_, Try.underlying33, rfl, fchk_ok (by rfl)⟩
    · cases h; exact ⟨_, Try.underlying34, rfl, fchk_ok (by rfl)⟩
    · cases h; exact ⟨_, Try.underlying38, rfl, fchk_ok (by rfl)⟩
    · cases h
    · cases h
    · cases h; exact ⟨_, Try.underlying157, rfl, fchk_ok (by rfl)⟩
    · cases h; exact ⟨_, Try.underlying239, rfl, fchk_ok (by rfl)⟩
    · cases h
    · cases h
  · cases h
theorem t_info : ∀ t, 0 < size t → ∃ i, Try.prog.info? t = some i ∧ i.size = size t ∧ i.bytes = bytes t ∧ ∃ z, i.zero = some z ∧ z.cells.toList = zero t ∧ (Go.Sm.isAgg T t = true → ∃ cs, z = .agg cs) := by
  intro t h
  unfold size at h
  split at h
  · exact ⟨Try.t3, by kernel_rfl, rfl, rfl, _, rfl, rfl, fun h => nomatch (show false = true from h)⟩
  · exact ⟨Try.t4, by kernel_rfl, rfl, rfl, _, rfl, rfl, fun h => nomatch (show false = true from h)⟩
  · exact ⟨Try.t5, by kernel_rfl, rfl, rfl, _, rfl, rfl, fun h => nomatch (show false = true from h)⟩
  · exact ⟨Try.t22, by kernel_rfl, rfl, rfl, _, rfl, rfl, fun h => nomatch (show false = true from h)⟩
  · exact ⟨Try.t24, by kernel_rfl, rfl, rfl, _, rfl, rfl, fun h => nomatch (show false = true from h)⟩
  · exact ⟨Try.t26, by kernel_rfl, rfl, rfl, _, rfl, rfl, fun h => ⟨_, rfl⟩⟩
  · exact ⟨Try.t29, by kernel_rfl, rfl, rfl, _, rfl, rfl, fun h => ⟨_, rfl⟩⟩
  · exact ⟨Try.t30, by kernel_rfl, rfl, rfl, _, rfl, rfl, fun h => ⟨_, rfl⟩⟩
  · exact ⟨Try.t32, by kernel_rfl, rfl, rfl, _, rfl, rfl, fun h => nomatch (show false = true from h)⟩
  · exact ⟨Try.t33, by kernel_rfl, rfl, rfl, _, rfl, rfl, fun h => ⟨_, rfl⟩⟩
  · exact ⟨Try.t34, by kernel_rfl, rfl, rfl, _, rfl, rfl, fun h => ⟨_, rfl⟩⟩
  · exact ⟨Try.t38, by kernel_rfl, rfl, rfl, _, rfl, rfl, fun h => ⟨_, rfl⟩⟩
  · exact ⟨Try.t55, by kernel_rfl, rfl, rfl, _, rfl, rfl, fun h => nomatch (show false = true from h)⟩
  · exact ⟨Try.t154, by kernel_rfl, rfl, rfl, _, rfl, rfl, fun h => nomatch (show false = true from h)⟩
  · exact ⟨Try.t157, by kernel_rfl, rfl, rfl, _, rfl, rfl, fun h => ⟨_, rfl⟩⟩
  · exact ⟨Try.t239, by kernel_rfl, rfl, rfl, _, rfl, rfl, fun h => ⟨_, rfl⟩⟩
  · exact absurd h (Nat.lt_irrefl _)
theorem t_agg : ∀ t, 0 < size t → ((match Try.prog.underlying t with | some (.struct _) => true | some (.array _ _) => true | _ => false) = Go.Sm.isAgg T t) := by
  intro t h
  unfold size at h
  split at h
  · rw [Try.underlying3]; rfl
  · rw [Try.underlying4]; rfl
  · rw [Try.underlying5]; rfl
  · rw [Try.underlying22]; rfl
  · rw [Try.underlying24]; rfl
  · rw [Try.underlying26]; rfl
  · rw [Try.underlying29]; rfl
  · rw [Try.underlying30]; rfl
  · rw [Try.underlying32]; rfl
  · rw [Try.underlying33]; rfl
  · rw [Try.underlying34]; rfl
  · rw [Try.underlying38]; rfl
  · rw [Try.underlying55]; rfl
  · rw [Try.underlying154]; rfl
  · rw [Try.underlying157]; rfl
  · rw [Try.underlying239]; rfl
  · exact absurd h (Nat.lt_irrefl _)
theorem t_und : ∀ t, 0 < size t → ∃ d, Try.prog.underlying t = some d := by
  intro t h
  unfold size at h
  split at h
  · exact ⟨_, Try.underlying3⟩
  · exact ⟨_, Try.underlying4⟩
  · exact ⟨_, Try.underlying5⟩
  · exact ⟨_, Try.underlying22⟩
  · exact ⟨_, Try.underlying24⟩
  · exact ⟨_, Try.underlying26⟩
  · exact ⟨_, Try.underlying29⟩
  · exact ⟨_, Try.underlying30⟩
  · exact ⟨_, Try.underlying32⟩
  · exact ⟨_, Try.underlying33⟩
  · exact ⟨_, Try.underlying34⟩
  · exact ⟨_, Try.underlying38⟩
  · exact ⟨_, Try.underlying55⟩
  · exact ⟨_, Try.underlying154⟩
  · exact ⟨_, Try.underlying157⟩
  · exact ⟨_, Try.underlying239⟩
  · exact absurd h (Nat.lt_irrefl _)
theorem t_zv : ∀ t, 0 < size t → Go.Sm.isAgg T t = false → ∃ i z, Try.prog.info? t = some i ∧ i.zero = some z ∧ ∀ cs, z ≠ .agg cs := by
  intro t h
  unfold size at h
  split at h
  · exact fun _ => ⟨Try.t3, .int .i64 0, by kernel_rfl, rfl, fun cs h => nomatch h⟩
  · exact fun _ => ⟨Try.t4, .bool false, by kernel_rfl, rfl, fun cs h => nomatch h⟩
  · exact fun _ => ⟨Try.t5, .int .u8 0, by kernel_rfl, rfl, fun cs h => nomatch h⟩
  · exact fun _ => ⟨Try.t22, .slice none 0 0, by kernel_rfl, rfl, fun cs h => nomatch h⟩
  · exact fun _ => ⟨Try.t24, .slice none 0 0, by kernel_rfl, rfl, fun cs h => nomatch h⟩
  · exact fun h => nomatch (show true = false from h)
  · exact fun h => nomatch (show true = false from h)
  · exact fun h => nomatch (show true = false from h)
  · exact fun _ => ⟨Try.t32, .slice none 0 0, by kernel_rfl, rfl, fun cs h => nomatch h⟩
  · exact fun h => nomatch (show true = false from h)
  · exact fun h => nomatch (show true = false from h)
  · exact fun h => nomatch (show true = false from h)
  · exact fun _ => ⟨Try.t55, .slice none 0 0, by kernel_rfl, rfl, fun cs h => nomatch h⟩
  · exact fun _ => ⟨Try.t154, .slice none 0 0, by kernel_rfl, rfl, fun cs h => nomatch h⟩
  · exact fun h => nomatch (show true = false from h)
  · exact fun h => nomatch (show true = false from h)
  · exact absurd h (Nat.lt_irrefl _)
theorem t_zero : ∀ t, 0 < size t → (zero t).length = size t ∧ ∀ (j : Nat) (d : D U) (v : Value), (dget t (dflt t))[j]? = some d → (zero t)[j]? = some v → plainD (T := T) d v ∨ ∃ u, d = .arr u [] ∧ v = .slice none 0 0 := by
  intro t h
  have hh : zchk (U := U) (fun t l => isNilL t l) (dget t (dflt t)) (zero t) = true := by
    unfold size at h
    split at h
    · rfl
    · rfl
    · rfl
    · rfl
    · rfl
    · rfl
    · rfl
    · rfl
    · rfl
    · rfl
    · rfl
    · rfl
    · rfl
    · rfl
    · rfl
    · rfl
    · exact absurd h (Nat.lt_irrefl _)
  obtain ⟨h1, h2⟩ := zchk_ok (T := T) hh
  exact ⟨h1.trans (t_len _ _), h2⟩
theorem eqf34 (w : World) (d : Nat) (xs ys : Array Value) : (Op.equalIn (d + 1) 34 (.agg xs) (.agg ys)).run Try.prog w = (Op.eqFields d xs ys (Try.prog.fieldsOf 34).toList).run Try.prog w := by
  have hf : Try.prog.fieldsOf 34 = (match Try.prog.underlying 34 with | some (.struct fs) => fs | _ => #[]) := rfl
  rw [Try.underlying34] at hf
  exact run_equalIn_struct w d 34 _ _ (by rw [hf]; exact Try.underlying34) Try.stoodInHeld34
theorem eqs34 : Try.prog.fieldsOf 34 = (match Try.prog.underlying 34 with | some (.struct fs) => fs | _ => #[]) := rfl
theorem t_eq34 : EqOk Try.prog T 34 := by
  intro w xs ys us vs r hx hy he hl hk hp hq
  obtain ⟨a0, xs0, xse0, hx0⟩ := shaped_int hx
  obtain ⟨a1, xs1, xse1, hx1⟩ := shaped_int hx0
  have xse2 := shaped_nil hx1
  subst xse2 xse1 xse0
  obtain ⟨b0, ys0, yse0, hy0⟩ := shaped_int hy
  obtain ⟨b1, ys1, yse1, hy1⟩ := shaped_int hy0
  have yse2 := shaped_nil hy1
  subst yse2 yse1 yse0
  obtain ⟨u0, us0, ue0, e0, hl0, hp0⟩ := plain_cons hl hp
  obtain ⟨u1, us1, ue1, e1, hl1, hp1⟩ := plain_cons hl0 hp0
  have ue2 := plain_nil hl1
  subst ue2 ue1 ue0
  obtain ⟨v0, vs0, ve0, g0, hk0, hq0⟩ := plain_cons hk hq
  obtain ⟨v1, vs1, ve1, g1, hk1, hq1⟩ := plain_cons hk0 hq0
  have ve2 := plain_nil hk1
  subst ve2 ve1 ve0
  simp only [plainD] at e0 g0 e1 g1
  subst e0 g0 e1 g1
  simp only [eqDs, eqD, Option.some.injEq, if_true] at he
  subst he
  refine ⟨?_, Try.eqGuardType34⟩
  unfold Op.equal Op.maxDepth
  rw [eqf34 w 9999]
  simp [Op.eqFields, part, run_equalIn_int, run_equalIn_bool, run_equalIn_string, ← beq_toListBytes, Sem.run_ite, eqf34, eqs34, Try.underlying3, Try.underlying34, Try.isAgg3, Try.isAgg34, Try.sizeOf34]
  by_cases c0 : a0 = b0 <;> by_cases c1 : a1 = b1 <;> simp [*]
theorem t_eqs : ∀ t, T.ceq t = true → EqOk Try.prog T t := by
  intro t h
  have h : ceq t = true := h
  unfold ceq at h
  skip
  rw [Nat.eq_of_beq_eq_true h]; exact t_eq34
theorem ok : TblOk Try.prog T := { len := t_len, get := t_get, pat := t_pat, slice := t_slice, arr := t_arr, str := t_str, bool := t_bool, int := t_int, intC := t_intC, struct := t_struct, ptr := t_ptr, map := t_map, info := t_info, agg := t_agg, zero := t_zero, und := t_und, zv := t_zv, eqs := t_eqs }
end Go.Sm.B3
