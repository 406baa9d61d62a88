import Derived.Test.YtojjoinjabogbaaEngD
import Derived.Test.YtojjoinjabogbaaA9Fn
import Derived.Test.YtojjoinjabogbaaProg
/- The program's types as the evaluator sees them. -/
set_option linter.unusedSimpArgs false
set_option linter.deprecated false
set_option linter.unusedSectionVars false
set_option linter.unusedVariables false
set_option maxRecDepth 100000
open Go Go.Proofs
noncomputable section
namespace Go.Sm.A9
def UI : Nat → (α : Type) × α
  | 3 => ⟨Int, (0 : Int)⟩
  | 4 => ⟨Bool, false⟩
  | 24 => ⟨List Int, []⟩
  | 82 => ⟨List SCargoTank, []⟩
  | 84 => ⟨SCargoOp, dSCargoOp⟩
  | 86 => ⟨List SCargoTank, []⟩
  | 90 => ⟨SCargoOp, dSCargoOp⟩
  | 95 => ⟨List SCargoOp, []⟩
  | 99 => ⟨List SCargoOp, []⟩
  | 198 => ⟨SCargoTank, dSCargoTank⟩
  | 203 => ⟨SCargoTank, dSCargoTank⟩
  | _ => ⟨Unit, ()⟩
abbrev U (t : Nat) : Type := (UI t).1
def dflt (t : Nat) : U t := (UI t).2
def dget : (t : Nat) → U t → List (D U)
  | 3, x => (fun (x : Int) => ([.int .i64 x] : List (D U))) x
  | 4, x => (fun (x : Bool) => ([.bool x] : List (D U))) x
  | 24, x => (fun (x : List Int) => ([.arr 3 x] : List (D U))) x
  | 82, x => (fun (x : List SCargoTank) => ([.arr 203 x] : List (D U))) x
  | 84, x => (fun (x : SCargoOp) => ([.int .i64 x.Kind, .int .i64 x.A, .int .i64 x.B, .int .i64 x.Many] : List (D U))) x
  | 86, x => (fun (x : List SCargoTank) => ([.arr 198 x] : List (D U))) x
  | 90, x => (fun (x : SCargoOp) => ([.int .i64 x.Kind, .int .i64 x.A, .int .i64 x.B, .int .i64 x.Many] : List (D U))) x
  | 95, x => (fun (x : List SCargoOp) => ([.arr 84 x] : List (D U))) x
  | 99, x => (fun (x : List SCargoOp) => ([.arr 90 x] : List (D U))) x
  | 198, x => (fun (x : SCargoTank) => ([.int .i64 x.Has, .int .i64 x.Most, .int .i64 x.Side, .int .i64 x.Gas, .int .i64 x.Air] : List (D U))) x
  | 203, x => (fun (x : SCargoTank) => ([.int .i64 x.Has, .int .i64 x.Most, .int .i64 x.Side, .int .i64 x.Gas, .int .i64 x.Air] : List (D U))) x
  | _, _ => []
def dset3 (ds : List (D U)) : Option Int := match ds with
  | [c0] => (intU .i64 c0).bind fun a0 => some (a0)
  | _ => none
theorem get3 {ds : List (D U)} {x : U 3} (h : dset3 ds = some x) : dget 3 x = ds := by
  unfold dset3 at h
  split at h
  · obtain ⟨a0, h0, h⟩ := Option.bind_eq_some_iff.1 h
    cases h
    rw [intU_eq h0]
    rfl
  · cases h
def dset4 (ds : List (D U)) : Option Bool := match ds with
  | [c0] => (boolU c0).bind fun a0 => some (a0)
  | _ => none
theorem get4 {ds : List (D U)} {x : U 4} (h : dset4 ds = some x) : dget 4 x = ds := by
  unfold dset4 at h
  split at h
  · obtain ⟨a0, h0, h⟩ := Option.bind_eq_some_iff.1 h
    cases h
    rw [boolU_eq h0]
    rfl
  · cases h
def dset24 (ds : List (D U)) : Option (List Int) := match ds with
  | [c0] => (arrU 3 c0).bind fun a0 => some (a0)
  | _ => none
theorem get24 {ds : List (D U)} {x : U 24} (h : dset24 ds = some x) : dget 24 x = ds := by
  unfold dset24 at h
  split at h
  · obtain ⟨a0, h0, h⟩ := Option.bind_eq_some_iff.1 h
    cases h
    rw [arrU_eq h0]
    rfl
  · cases h
def dset82 (ds : List (D U)) : Option (List SCargoTank) := match ds with
  | [c0] => (arrU 203 c0).bind fun a0 => some (a0)
  | _ => none
theorem get82 {ds : List (D U)} {x : U 82} (h : dset82 ds = some x) : dget 82 x = ds := by
  unfold dset82 at h
  split at h
  · obtain ⟨a0, h0, h⟩ := Option.bind_eq_some_iff.1 h
    cases h
    rw [arrU_eq h0]
    rfl
  · cases h
def dset84 (ds : List (D U)) : Option SCargoOp := match ds with
  | [c0, c1, c2, c3] => (intU .i64 c0).bind fun a0 => (intU .i64 c1).bind fun a1 => (intU .i64 c2).bind fun a2 => (intU .i64 c3).bind fun a3 => some ((⟨a0, a1, a2, a3⟩ : SCargoOp))
  | _ => none
theorem get84 {ds : List (D U)} {x : U 84} (h : dset84 ds = some x) : dget 84 x = ds := by
  unfold dset84 at h
  split at h
  · obtain ⟨a0, h0, h⟩ := Option.bind_eq_some_iff.1 h
    obtain ⟨a1, h1, h⟩ := Option.bind_eq_some_iff.1 h
    obtain ⟨a2, h2, h⟩ := Option.bind_eq_some_iff.1 h
    obtain ⟨a3, h3, h⟩ := Option.bind_eq_some_iff.1 h
    cases h
    rw [intU_eq h0, intU_eq h1, intU_eq h2, intU_eq h3]
    rfl
  · cases h
def dset86 (ds : List (D U)) : Option (List SCargoTank) := match ds with
  | [c0] => (arrU 198 c0).bind fun a0 => some (a0)
  | _ => none
theorem get86 {ds : List (D U)} {x : U 86} (h : dset86 ds = some x) : dget 86 x = ds := by
  unfold dset86 at h
  split at h
  · obtain ⟨a0, h0, h⟩ := Option.bind_eq_some_iff.1 h
    cases h
    rw [arrU_eq h0]
    rfl
  · cases h
def dset90 (ds : List (D U)) : Option SCargoOp := match ds with
  | [c0, c1, c2, c3] => (intU .i64 c0).bind fun a0 => (intU .i64 c1).bind fun a1 => (intU .i64 c2).bind fun a2 => (intU .i64 c3).bind fun a3 => some ((⟨a0, a1, a2, a3⟩ : SCargoOp))
  | _ => none
theorem get90 {ds : List (D U)} {x : U 90} (h : dset90 ds = some x) : dget 90 x = ds := by
  unfold dset90 at h
  split at h
  · obtain ⟨a0, h0, h⟩ := Option.bind_eq_some_iff.1 h
    obtain ⟨a1, h1, h⟩ := Option.bind_eq_some_iff.1 h
    obtain ⟨a2, h2, h⟩ := Option.bind_eq_some_iff.1 h
    obtain ⟨a3, h3, h⟩ := Option.bind_eq_some_iff.1 h
    cases h
    rw [intU_eq h0, intU_eq h1, intU_eq h2, intU_eq h3]
    rfl
  · cases h
def dset95 (ds : List (D U)) : Option (List SCargoOp) := match ds with
  | [c0] => (arrU 84 c0).bind fun a0 => some (a0)
  | _ => none
theorem get95 {ds : List (D U)} {x : U 95} (h : dset95 ds = some x) : dget 95 x = ds := by
  unfold dset95 at h
  split at h
  · obtain ⟨a0, h0, h⟩ := Option.bind_eq_some_iff.1 h
    cases h
    rw [arrU_eq h0]
    rfl
  · cases h
def dset99 (ds : List (D U)) : Option (List SCargoOp) := match ds with
  | [c0] => (arrU 90 c0).bind fun a0 => some (a0)
  | _ => none
theorem get99 {ds : List (D U)} {x : U 99} (h : dset99 ds = some x) : dget 99 x = ds := by
  unfold dset99 at h
  split at h
  · obtain ⟨a0, h0, h⟩ := Option.bind_eq_some_iff.1 h
    cases h
    rw [arrU_eq h0]
    rfl
  · cases h
def dset198 (ds : List (D U)) : Option SCargoTank := match ds with
  | [c0, c1, c2, c3, c4] => (intU .i64 c0).bind fun a0 => (intU .i64 c1).bind fun a1 => (intU .i64 c2).bind fun a2 => (intU .i64 c3).bind fun a3 => (intU .i64 c4).bind fun a4 => some ((⟨a0, a1, a2, a3, a4⟩ : SCargoTank))
  | _ => none
theorem get198 {ds : List (D U)} {x : U 198} (h : dset198 ds = some x) : dget 198 x = ds := by
  unfold dset198 at h
  split at h
  · obtain ⟨a0, h0, h⟩ := Option.bind_eq_some_iff.1 h
    obtain ⟨a1, h1, h⟩ := Option.bind_eq_some_iff.1 h
    obtain ⟨a2, h2, h⟩ := Option.bind_eq_some_iff.1 h
    obtain ⟨a3, h3, h⟩ := Option.bind_eq_some_iff.1 h
    obtain ⟨a4, h4, h⟩ := Option.bind_eq_some_iff.1 h
    cases h
    rw [intU_eq h0, intU_eq h1, intU_eq h2, intU_eq h3, intU_eq h4]
    rfl
  · cases h
def dset203 (ds : List (D U)) : Option SCargoTank := match ds with
  | [c0, c1, c2, c3, c4] => (intU .i64 c0).bind fun a0 => (intU .i64 c1).bind fun a1 => (intU .i64 c2).bind fun a2 => (intU .i64 c3).bind fun a3 => (intU .i64 c4).bind fun a4 => some ((⟨a0, a1, a2, a3, a4⟩ : SCargoTank))
  | _ => none
theorem get203 {ds : List (D U)} {x : U 203} (h : dset203 ds = some x) : dget 203 x = ds := by
  unfold dset203 at h
  split at h
  · obtain ⟨a0, h0, h⟩ := Option.bind_eq_some_iff.1 h
    obtain ⟨a1, h1, h⟩ := Option.bind_eq_some_iff.1 h
    obtain ⟨a2, h2, h⟩ := Option.bind_eq_some_iff.1 h
    obtain ⟨a3, h3, h⟩ := Option.bind_eq_some_iff.1 h
    obtain ⟨a4, h4, h⟩ := Option.bind_eq_some_iff.1 h
    cases h
    rw [intU_eq h0, intU_eq h1, intU_eq h2, intU_eq h3, intU_eq h4]
    rfl
  · cases h
def castU {t t2 : Nat} (h : t2 = t) (x : Option (U t)) : Option (U t2) := h ▸ x
def dset (t : Nat) (ds : List (D U)) : Option (U t) :=
  if h : t = 3 then castU h (dset3 ds) else
  if h : t = 4 then castU h (dset4 ds) else
  if h : t = 24 then castU h (dset24 ds) else
  if h : t = 82 then castU h (dset82 ds) else
  if h : t = 84 then castU h (dset84 ds) else
  if h : t = 86 then castU h (dset86 ds) else
  if h : t = 90 then castU h (dset90 ds) else
  if h : t = 95 then castU h (dset95 ds) else
  if h : t = 99 then castU h (dset99 ds) else
  if h : t = 198 then castU h (dset198 ds) else
  if h : t = 203 then castU h (dset203 ds) else
  none
def ty0 : Nat → Ty
  | 3 => .int .i64
  | 4 => .bool
  | 24 => .slice 3
  | 82 => .slice 203
  | 84 => .struct [(0, 3), (1, 3), (2, 3), (3, 3)]
  | 86 => .slice 198
  | 90 => .struct [(0, 3), (1, 3), (2, 3), (3, 3)]
  | 95 => .slice 84
  | 99 => .slice 90
  | 198 => .struct [(0, 3), (1, 3), (2, 3), (3, 3), (4, 3)]
  | 203 => .struct [(0, 3), (1, 3), (2, 3), (3, 3), (4, 3)]
  | 205 => .ptr 198
  | _ => .other
def ty (t : Nat) : Ty := bif Nat.ble 100000 t then .ref (t - 100000) else ty0 t
def size : Nat → Nat
  | 3 => 1
  | 4 => 1
  | 24 => 1
  | 82 => 1
  | 84 => 4
  | 86 => 1
  | 90 => 4
  | 95 => 1
  | 99 => 1
  | 198 => 5
  | 203 => 5
  | _ => 0
def bytes : Nat → Nat
  | 3 => 8
  | 4 => 1
  | 24 => 24
  | 82 => 24
  | 84 => 32
  | 86 => 24
  | 90 => 32
  | 95 => 24
  | 99 => 24
  | 198 => 40
  | 203 => 40
  | _ => 0
def zero : Nat → List Value
  | 3 => [.int .i64 0]
  | 4 => [.bool false]
  | 24 => [.slice none 0 0]
  | 82 => [.slice none 0 0]
  | 84 => [.int .i64 0, .int .i64 0, .int .i64 0, .int .i64 0]
  | 86 => [.slice none 0 0]
  | 90 => [.int .i64 0, .int .i64 0, .int .i64 0, .int .i64 0]
  | 95 => [.slice none 0 0]
  | 99 => [.slice none 0 0]
  | 198 => [.int .i64 0, .int .i64 0, .int .i64 0, .int .i64 0, .int .i64 0]
  | 203 => [.int .i64 0, .int .i64 0, .int .i64 0, .int .i64 0, .int .i64 0]
  | _ => []
def ceq (t : Nat) : Bool := false
def sgs : List (Nat × Sig) := [(9, ⟨[82, 95, 3], [.ro, .ro, .ro], .own⟩),
  (19, ⟨[24, 24], [.ro, .ro], .own⟩),
  (22, ⟨[24, 3], [.rws, .ro], .own⟩),
  (23, ⟨[24, 3], [.ro, .ro], .own⟩),
  (59, ⟨[82, 3], [.ro, .ro], .own⟩),
  (60, ⟨[86, 90, 3], [.ro, .ro, .ro], .own⟩),
  (61, ⟨[82], [.ro], .own⟩),
  (62, ⟨[84], [.ro], .own⟩),
  (63, ⟨[86, 90, 3], [.ro, .ro, .ro], .own⟩),
  (64, ⟨[86, 86], [.ro, .ro], .own⟩),
  (65, ⟨[86, 3], [.rws, .ro], .own⟩),
  (66, ⟨[86, 3], [.ro, .ro], .own⟩),
  (67, ⟨[95, 3], [.ro, .ro], .own⟩),
  (68, ⟨[86, 99, 3], [.ro, .ro, .ro], .own⟩),
  (69, ⟨[95], [.ro], .own⟩),
  (70, ⟨[86, 99, 3], [.ro, .ro, .ro], .own⟩),
  (71, ⟨[99, 99], [.ro, .ro], .own⟩),
  (72, ⟨[99, 3], [.rws, .ro], .own⟩),
  (101, ⟨[3, 3, 3], [.ro, .ro, .ro], .own⟩),
  (106, ⟨[24], [.ro], .own⟩),
  (113, ⟨[3, 3, 3], [.ro, .ro, .ro], .own⟩),
  (141, ⟨[86], [.ro], .own⟩),
  (142, ⟨[86, 90], [.ro, .ro], .own⟩),
  (143, ⟨[198, 3], [.ro, .ro], .own⟩),
  (144, ⟨[198, 3], [.ro, .ro], .own⟩),
  (145, ⟨[198], [.ro], .own⟩),
  (146, ⟨[86], [.ro], .own⟩),
  (147, ⟨[203], [.ro], .own⟩),
  (148, ⟨[86], [.ro], .own⟩),
  (149, ⟨[86], [.ro], .own⟩),
  (150, ⟨[205, 3], [.rws, .ro], .own⟩),
  (151, ⟨[198], [.ro], .own⟩),
  (152, ⟨[3], [.ro], .own⟩),
  (153, ⟨[86], [.ro], .own⟩),
  (154, ⟨[198, 198], [.ro, .ro], .own⟩),
  (155, ⟨[90, 90], [.ro, .ro], .own⟩),
  (221, ⟨[3], [.ro], .own⟩),
  (222, ⟨[86, 200], [.ro, .ro], .own⟩),
  (223, ⟨[198], [.ro], .own⟩),
  (251, ⟨[86, 200], [.ro, .ro], .own⟩)]
def lookS (f : Nat) : List (Nat × Sig) → Sig
  | [] => ⟨[], [], .own⟩
  | (g, s) :: r => bif Nat.beq f g then s else lookS f r
def sg (f : Nat) : Sig := lookS f sgs
def cap (f : Nat) : List Nat := []
def T : Tbl := { U := U, ty := ty, size := size, bytes := bytes, zero := zero, dget := dget, dset := dset, dflt := dflt, ceq := ceq, keq := fun _ _ _ => false, sg := sg, cap := cap }
theorem t_len : ∀ t x, (dget t x).length = size t := by
  intro t x
  unfold dget size
  split
  · rfl
  · rfl
  · rfl
  · rfl
  · rfl
  · rfl
  · rfl
  · rfl
  · rfl
  · rfl
  · rfl
  · rename_i h
    split <;> first | rfl | exact absurd rfl (h _) | simp_all
theorem t_get : ∀ t ds x, dset t ds = some x → dget t x = ds := by
  intro t ds x h
  by_cases e3 : t = 3
  · subst e3; exact get3 (show dset3 ds = some x from h)
  by_cases e4 : t = 4
  · subst e4; exact get4 (show dset4 ds = some x from h)
  by_cases e24 : t = 24
  · subst e24; exact get24 (show dset24 ds = some x from h)
  by_cases e82 : t = 82
  · subst e82; exact get82 (show dset82 ds = some x from h)
  by_cases e84 : t = 84
  · subst e84; exact get84 (show dset84 ds = some x from h)
  by_cases e86 : t = 86
  · subst e86; exact get86 (show dset86 ds = some x from h)
  by_cases e90 : t = 90
  · subst e90; exact get90 (show dset90 ds = some x from h)
  by_cases e95 : t = 95
  · subst e95; exact get95 (show dset95 ds = some x from h)
  by_cases e99 : t = 99
  · subst e99; exact get99 (show dset99 ds = some x from h)
  by_cases e198 : t = 198
  · subst e198; exact get198 (show dset198 ds = some x from h)
  by_cases e203 : t = 203
  · subst e203; exact get203 (show dset203 ds = some x from h)
  unfold dset at h
  rw [dif_neg e3, dif_neg e4, dif_neg e24, dif_neg e82, dif_neg e84, dif_neg e86, dif_neg e90, dif_neg e95, dif_neg e99, dif_neg e198, dif_neg e203] at h
  cases h
theorem t_pat : ∀ t x, (dget t x).map D.isArr = (dget t (dflt t)).map D.isArr := by
  intro t x
  unfold dget
  split
  · rfl
  · rfl
  · rfl
  · rfl
  · rfl
  · rfl
  · rfl
  · rfl
  · rfl
  · rfl
  · rfl
  · rename_i h
    split <;> first | rfl | exact absurd rfl (h _) | simp_all
theorem t_slice : ∀ t e, ty t = .slice e → Try.prog.underlying t = some (.slice e) := by
  intro t e h
  unfold ty at h
  cases hb : Nat.ble 100000 t <;> rw [hb] at h
  · simp only [cond_false] at h
    unfold ty0 at h
    split at h
    · cases h
    · cases h
    · cases h; exact Try.underlying24
    · cases h; exact Try.underlying82
    · cases h
    · cases h; exact Try.underlying86
    · cases h
    · cases h; exact Try.underlying95
    · cases h; exact Try.underlying99
    · cases h
    · cases h
    · cases h
    · cases h
  · cases h
theorem t_arr : ∀ t n e, ty t = .arr n e → Try.prog.underlying t = some (.array n e) := by
  intro t n e h
  unfold ty at h
  cases hb : Nat.ble 100000 t <;> rw [hb] at h
  · simp only [cond_false] at h
    unfold ty0 at h
    split at h
    · cases h
    · cases h
    · cases h
    · cases h
    · cases h
    · cases h
    · cases h
    · cases h
    · cases h
    · cases h
    · cases h
    · cases h
    · cases h
  · cases h
theorem t_str : ∀ t, ty t = .str → Try.prog.underlying t = some .string := by
  intro t h
  unfold ty at h
  cases hb : Nat.ble 100000 t <;> rw [hb] at h
  · simp only [cond_false] at h
    unfold ty0 at h
    split at h
    · cases h
    · cases h
    · cases h
    · cases h
    · cases h
    · cases h
    · cases h
    · cases h
    · cases h
    · cases h
    · cases h
    · cases h
    · cases h
  · cases h
theorem t_bool : ∀ t, ty t = .bool → Try.prog.underlying t = some .bool := by
  intro t h
  unfold ty at h
  cases hb : Nat.ble 100000 t <;> rw [hb] at h
  · simp only [cond_false] at h
    unfold ty0 at h
    split at h
    · cases h
    · exact Try.underlying4
    · cases h
    · cases h
    · cases h
    · cases h
    · cases h
    · cases h
    · cases h
    · cases h
    · cases h
    · cases h
    · cases h
  · cases h
theorem t_int : ∀ t k, ty t = .int k → Try.prog.underlying t = some (.int k) := by
  intro t k h
  unfold ty at h
  cases hb : Nat.ble 100000 t <;> rw [hb] at h
  · simp only [cond_false] at h
    unfold ty0 at h
    split at h
    · cases h; exact Try.underlying3
    · cases h
    · cases h
    · cases h
    · cases h
    · cases h
    · cases h
    · cases h
    · cases h
    · cases h
    · cases h
    · cases h
    · cases h
  · cases h
theorem t_intC : ∀ t k, ty t = .int k → ∀ x, ∃ n, dget t x = [.int k n] := by
  intro t k h
  unfold ty at h
  cases hb : Nat.ble 100000 t <;> rw [hb] at h
  · simp only [cond_false] at h
    unfold ty0 at h
    split at h
    · cases h; exact fun x => ⟨x, rfl⟩
    · cases h
    · cases h
    · cases h
    · cases h
    · cases h
    · cases h
    · cases h
    · cases h
    · cases h
    · cases h
    · cases h
    · cases h
  · cases h
theorem t_ptr : ∀ t e, ty t = .ptr e → Try.prog.underlying t = some (.pointer e) := by
  intro t e h
  unfold ty at h
  cases hb : Nat.ble 100000 t <;> rw [hb] at h
  · simp only [cond_false] at h
    unfold ty0 at h
    split at h
    · cases h
    · cases h
    · cases h
    · cases h
    · cases h
    · cases h
    · cases h
    · cases h
    · cases h
    · cases h
    · cases h
    · cases h; exact Try.underlying205
    · cases h
  · cases h
theorem t_map : ∀ t k e, ty t = .map k e → Try.prog.underlying t = some (.map k e) := by
  intro t k e h
  unfold ty at h
  cases hb : Nat.ble 100000 t <;> rw [hb] at h
  · simp only [cond_false] at h
    unfold ty0 at h
    split at h
    · cases h
    · cases h
    · cases h
    · cases h
    · cases h
    · cases h
    · cases h
    · cases h
    · cases h
    · cases h
    · cases h
    · cases h
    · cases h
  · cases h
theorem t_struct : ∀ t fs, ty t = .struct fs → ∃ fields : Array Field, Try.prog.underlying t = some (.struct fields) ∧ fs = fields.toList.map (fun f => (f.offset, f.type)) ∧ (∀ f ∈ fields.toList, 0 < size f.type ∧ f.name ≠ "_") := by
  intro t fs h
  unfold ty at h
  cases hb : Nat.ble 100000 t <;> rw [hb] at h
  · simp only [cond_false] at h
    unfold ty0 at h
    split at h
    · cases h
    · cases h
    · cases h
    · cases h
    · cases h; exact ⟨_, Try.underlying84, rfl, fchk_ok (by rfl)⟩
    · cases h
    · cases h; exact ⟨_, Try.underlying90, rfl, fchk_ok (by rfl)⟩
    · cases h
    · cases h
    · cases h; exact ⟨_, Try.underlying198, rfl, fchk_ok (by rfl)⟩
    · cases h; exact ⟨_, Try.underlying203, rfl, fchk_ok (by rfl)⟩
    · cases h
    · cases h
  · cases h
theorem t_info : ∀ t, 0 < size t → ∃ i, Try.prog.info? t = some i ∧ i.size = size t ∧ i.bytes = bytes t ∧ ∃ z, i.zero = some z ∧ z.cells.toList = zero t ∧ (Go.Sm.isAgg T t = true → ∃ cs, z = .agg cs) := by
  intro t h
  unfold size at h
  split at h
  · exact ⟨Try.t3, by kernel_rfl, rfl, rfl, _, rfl, rfl, fun h => nomatch (show false = true from h)⟩
  · exact ⟨Try.t4, by kernel_rfl, rfl, rfl, _, rfl, rfl, fun h => nomatch (show false = true from h)⟩
  · exact ⟨Try.t24, by kernel_rfl, rfl, rfl, _, rfl, rfl, fun h => nomatch (show false = true from h)⟩
  · exact ⟨Try.t82, by kernel_rfl, rfl, rfl, _, rfl, rfl, fun h => nomatch (show false = true from h)⟩
  · exact ⟨Try.t84, by kernel_rfl, rfl, rfl, _, rfl, rfl, fun h => ⟨_, rfl⟩⟩
  · exact ⟨Try.t86, by kernel_rfl, rfl, rfl, _, rfl, rfl, fun h => nomatch (show false = true from h)⟩
  · exact ⟨Try.t90, by kernel_rfl, rfl, rfl, _, rfl, rfl, fun h => ⟨_, rfl⟩⟩
  · exact ⟨Try.t95, by kernel_rfl, rfl, rfl, _, rfl, rfl, fun h => nomatch (show false = true from h)⟩
  · exact ⟨Try.t99, by kernel_rfl, rfl, rfl, _, rfl, rfl, fun h => nomatch (show false = true from h)⟩
  · exact ⟨Try.t198, by kernel_rfl, rfl, rfl, _, rfl, rfl, fun h => ⟨_, rfl⟩⟩
  · exact ⟨Try.t203, by kernel_rfl, rfl, rfl, _, rfl, rfl, fun h => ⟨_, rfl⟩⟩
  · exact absurd h (Nat.lt_irrefl _)
theorem t_agg : ∀ t, 0 < size t → ((match Try.prog.underlying t with | some (.struct _) => true | some (.array _ _) => true | _ => false) = Go.Sm.isAgg T t) := by
  intro t h
  unfold size at h
  split at h
  · rw [Try.underlying3]; rfl
  · rw [Try.underlying4]; rfl
  · rw [Try.underlying24]; rfl
  · rw [Try.underlying82]; rfl
  · rw [Try.underlying84]; rfl
  · rw [Try.underlying86]; rfl
  · rw [Try.underlying90]; rfl
  · rw [Try.underlying95]; rfl
  · rw [Try.underlying99]; rfl
  · rw [Try.underlying198]; rfl
  · rw [Try.underlying203]; rfl
  · exact absurd h (Nat.lt_irrefl _)
theorem t_und : ∀ t, 0 < size t → ∃ d, Try.prog.underlying t = some d := by
  intro t h
  unfold size at h
  split at h
  · exact ⟨_, Try.underlying3⟩
  · exact ⟨_, Try.underlying4⟩
  · exact ⟨_, Try.underlying24⟩
  · exact ⟨_, Try.underlying82⟩
  · exact ⟨_, Try.underlying84⟩
  · exact ⟨_, Try.underlying86⟩
  · exact ⟨_, Try.underlying90⟩
  · exact ⟨_, Try.underlying95⟩
  · exact ⟨_, Try.underlying99⟩
  · exact ⟨_, Try.underlying198⟩
  · exact ⟨_, Try.underlying203⟩
  · exact absurd h (Nat.lt_irrefl _)
theorem t_zv : ∀ t, 0 < size t → Go.Sm.isAgg T t = false → ∃ i z, Try.prog.info? t = some i ∧ i.zero = some z ∧ ∀ cs, z ≠ .agg cs := by
  intro t h
  unfold size at h
  split at h
  · exact fun _ => ⟨Try.t3, .int .i64 0, by kernel_rfl, rfl, fun cs h => nomatch h⟩
  · exact fun _ => ⟨Try.t4, .bool false, by kernel_rfl, rfl, fun cs h => nomatch h⟩
  · exact fun _ => ⟨Try.t24, .slice none 0 0, by kernel_rfl, rfl, fun cs h => nomatch h⟩
  · exact fun _ => ⟨Try.t82, .slice none 0 0, by kernel_rfl, rfl, fun cs h => nomatch h⟩
  · exact fun h => nomatch (show true = false from h)
  · exact fun _ => ⟨Try.t86, .slice none 0 0, by kernel_rfl, rfl, fun cs h => nomatch h⟩
  · exact fun h => nomatch (show true = false from h)
  · exact fun _ => ⟨Try.t95, .slice none 0 0, by kernel_rfl, rfl, fun cs h => nomatch h⟩
  · exact fun _ => ⟨Try.t99, .slice none 0 0, by kernel_rfl, rfl, fun cs h => nomatch h⟩
  · exact fun h => nomatch (show true = false from h)
  · exact fun h => nomatch (show true = false from h)
  · exact absurd h (Nat.lt_irrefl _)
theorem t_zero : ∀ t, 0 < size t → (zero t).length = size t ∧ ∀ (j : Nat) (d : D U) (v : Value), (dget t (dflt t))[j]? = some d → (zero t)[j]? = some v → plainD (T := T) d v ∨ ∃ u, d = .arr u [] ∧ v = .slice none 0 0 := by
  intro t h
  have hh : zchk (U := U) (fun t l => isNilL t l) (dget t (dflt t)) (zero t) = true := by
    unfold size at h
    split at h
    · rfl
    · rfl
    · rfl
    · rfl
    · rfl
    · rfl
    · rfl
    · rfl
    · rfl
    · rfl
    · rfl
    · exact absurd h (Nat.lt_irrefl _)
  obtain ⟨h1, h2⟩ := zchk_ok (T := T) hh
  exact ⟨h1.trans (t_len _ _), h2⟩
theorem t_eqs : ∀ t, T.ceq t = true → EqOk Try.prog T t := by
  intro t h
  have h : ceq t = true := h
  unfold ceq at h
  cases h
theorem ok : TblOk Try.prog T := { len := t_len, get := t_get, pat := t_pat, slice := t_slice, arr := t_arr, str := t_str, bool := t_bool, int := t_int, intC := t_intC, struct := t_struct, ptr := t_ptr, map := t_map, info := t_info, agg := t_agg, zero := t_zero, und := t_und, zv := t_zv, eqs := t_eqs }
end Go.Sm.A9
