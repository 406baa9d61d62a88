import Derived.Test.YtefibegfcfbcjaaEngD
import Derived.Test.YtefibegfcfbcjaaD5Fn
import Derived.Test.YtefibegfcfbcjaaProg
/- The program's types as the evaluator sees them. -/
set_option linter.unusedSimpArgs false
set_option linter.deprecated false
set_option linter.unusedSectionVars false
set_option linter.unusedVariables false
set_option maxRecDepth 100000
open Go Go.Proofs
noncomputable section
namespace Go.Sm.D5
def UI : Nat → (α : Type) × α
  | 3 => ⟨Int, (0 : Int)⟩
  | 4 => ⟨Bool, false⟩
  | 23 => ⟨List Int, []⟩
  | 35 => ⟨List (List Int), []⟩
  | 37 => ⟨SYard, dSYard⟩
  | 39 => ⟨SYardOp, dSYardOp⟩
  | 41 => ⟨SYard, dSYard⟩
  | 45 => ⟨SYardOp, dSYardOp⟩
  | 50 => ⟨List SYardOp, []⟩
  | 54 => ⟨List SYardOp, []⟩
  | _ => ⟨Unit, ()⟩
abbrev U (t : Nat) : Type := (UI t).1
def dflt (t : Nat) : U t := (UI t).2
def dget : (t : Nat) → U t → List (D U)
  | 3, x => (fun (x : Int) => ([.int .i64 x] : List (D U))) x
  | 4, x => (fun (x : Bool) => ([.bool x] : List (D U))) x
  | 23, x => (fun (x : List Int) => ([.arr 3 x] : List (D U))) x
  | 35, x => (fun (x : List (List Int)) => ([.arr 23 x] : List (D U))) x
  | 37, x => (fun (x : SYard) => ([.int .i64 x.High, .arr 23 x.Stacks] : List (D U))) x
  | 39, x => (fun (x : SYardOp) => ([.int .i64 x.Kind, .int .i64 x.Box, .int .i64 x.Stack] : List (D U))) x
  | 41, x => (fun (x : SYard) => ([.int .i64 x.High, .arr 23 x.Stacks] : List (D U))) x
  | 45, x => (fun (x : SYardOp) => ([.int .i64 x.Kind, .int .i64 x.Box, .int .i64 x.Stack] : List (D U))) x
  | 50, x => (fun (x : List SYardOp) => ([.arr 39 x] : List (D U))) x
  | 54, x => (fun (x : List SYardOp) => ([.arr 45 x] : List (D U))) x
  | _, _ => []
def dset3 (ds : List (D U)) : Option Int := match ds with
  | [c0] => (intU .i64 c0).bind fun a0 => some (a0)
  | _ => none
theorem get3 {ds : List (D U)} {x : U 3} (h : dset3 ds = some x) : dget 3 x = ds := by
  unfold dset3 at h
  split at h
  · obtain ⟨a0, h0, h⟩ := Option.bind_eq_some_iff.1 h
    cases h
    rw [intU_eq h0]
    rfl
  · cases h
def dset4 (ds : List (D U)) : Option Bool := match ds with
  | [c0] => (boolU c0).bind fun a0 => some (a0)
  | _ => none
theorem get4 {ds : List (D U)} {x : U 4} (h : dset4 ds = some x) : dget 4 x = ds := by
  unfold dset4 at h
  split at h
  · obtain ⟨a0, h0, h⟩ := Option.bind_eq_some_iff.1 h
    cases h
    rw [boolU_eq h0]
    rfl
  · cases h
def dset23 (ds : List (D U)) : Option (List Int) := match ds with
  | [c0] => (arrU 3 c0).bind fun a0 => some (a0)
  | _ => none
theorem get23 {ds : List (D U)} {x : U 23} (h : dset23 ds = some x) : dget 23 x = ds := by
  unfold dset23 at h
  split at h
  · obtain ⟨a0, h0, h⟩ := Option.bind_eq_some_iff.1 h
    cases h
    rw [arrU_eq h0]
    rfl
  · cases h
def dset35 (ds : List (D U)) : Option (List (List Int)) := match ds with
  | [c0] => (arrU 23 c0).bind fun a0 => some (a0)
  | _ => none
theorem get35 {ds : List (D U)} {x : U 35} (h : dset35 ds = some x) : dget 35 x = ds := by
  unfold dset35 at h
  split at h
  · obtain ⟨a0, h0, h⟩ := Option.bind_eq_some_iff.1 h
    cases h
    rw [arrU_eq h0]
    rfl
  · cases h
def dset37 (ds : List (D U)) : Option SYard := match ds with
  | [c0, c1] => (intU .i64 c0).bind fun a0 => (arrU 23 c1).bind fun a1 => some ((⟨a0, a1⟩ : SYard))
  | _ => none
theorem get37 {ds : List (D U)} {x : U 37} (h : dset37 ds = some x) : dget 37 x = ds := by
  unfold dset37 at h
  split at h
  · obtain ⟨a0, h0, h⟩ := Option.bind_eq_some_iff.1 h
    obtain ⟨a1, h1, h⟩ := Option.bind_eq_some_iff.1 h
    cases h
    rw [intU_eq h0, arrU_eq h1]
    rfl
  · cases h
def dset39 (ds : List (D U)) : Option SYardOp := match ds with
  | [c0, c1, c2] => (intU .i64 c0).bind fun a0 => (intU .i64 c1).bind fun a1 => (intU .i64 c2).bind fun a2 => some ((⟨a0, a1, a2⟩ : SYardOp))
  | _ => none
theorem get39 {ds : List (D U)} {x : U 39} (h : dset39 ds = some x) : dget 39 x = ds := by
  unfold dset39 at h
  split at h
  · obtain ⟨a0, h0, h⟩ := Option.bind_eq_some_iff.1 h
    obtain ⟨a1, h1, h⟩ := Option.bind_eq_some_iff.1 h
    obtain ⟨a2, h2, h⟩ := Option.bind_eq_some_iff.1 h
    cases h
    rw [intU_eq h0, intU_eq h1, intU_eq h2]
    rfl
  · cases h
def dset41 (ds : List (D U)) : Option SYard := match ds with
  | [c0, c1] => (intU .i64 c0).bind fun a0 => (arrU 23 c1).bind fun a1 => some ((⟨a0, a1⟩ : SYard))
  | _ => none
theorem get41 {ds : List (D U)} {x : U 41} (h : dset41 ds = some x) : dget 41 x = ds := by
  unfold dset41 at h
  split at h
  · obtain ⟨a0, h0, h⟩ := Option.bind_eq_some_iff.1 h
    obtain ⟨a1, h1, h⟩ := Option.bind_eq_some_iff.1 h
    cases h
    rw [intU_eq h0, arrU_eq h1]
    rfl
  · cases h
def dset45 (ds : List (D U)) : Option SYardOp := match ds with
  | [c0, c1, c2] => (intU .i64 c0).bind fun a0 => (intU .i64 c1).bind fun a1 => (intU .i64 c2).bind fun a2 => some ((⟨a0, a1, a2⟩ : SYardOp))
  | _ => none
theorem get45 {ds : List (D U)} {x : U 45} (h : dset45 ds = some x) : dget 45 x = ds := by
  unfold dset45 at h
  split at h
  · obtain ⟨a0, h0, h⟩ := Option.bind_eq_some_iff.1 h
    obtain ⟨a1, h1, h⟩ := Option.bind_eq_some_iff.1 h
    obtain ⟨a2, h2, h⟩ := Option.bind_eq_some_iff.1 h
    cases h
    rw [intU_eq h0, intU_eq h1, intU_eq h2]
    rfl
  · cases h
def dset50 (ds : List (D U)) : Option (List SYardOp) := match ds with
  | [c0] => (arrU 39 c0).bind fun a0 => some (a0)
  | _ => none
theorem get50 {ds : List (D U)} {x : U 50} (h : dset50 ds = some x) : dget 50 x = ds := by
  unfold dset50 at h
  split at h
  · obtain ⟨a0, h0, h⟩ := Option.bind_eq_some_iff.1 h
    cases h
    rw [arrU_eq h0]
    rfl
  · cases h
def dset54 (ds : List (D U)) : Option (List SYardOp) := match ds with
  | [c0] => (arrU 45 c0).bind fun a0 => some (a0)
  | _ => none
theorem get54 {ds : List (D U)} {x : U 54} (h : dset54 ds = some x) : dget 54 x = ds := by
  unfold dset54 at h
  split at h
  · obtain ⟨a0, h0, h⟩ := Option.bind_eq_some_iff.1 h
    cases h
    rw [arrU_eq h0]
    rfl
  · cases h
def castU {t t2 : Nat} (h : t2 = t) (x : Option (U t)) : Option (U t2) := h ▸ x
def dset (t : Nat) (ds : List (D U)) : Option (U t) :=
  if h : t = 3 then castU h (dset3 ds) else
  if h : t = 4 then castU h (dset4 ds) else
  if h : t = 23 then castU h (dset23 ds) else
  if h : t = 35 then castU h (dset35 ds) else
  if h : t = 37 then castU h (dset37 ds) else
  if h : t = 39 then castU h (dset39 ds) else
  if h : t = 41 then castU h (dset41 ds) else
  if h : t = 45 then castU h (dset45 ds) else
  if h : t = 50 then castU h (dset50 ds) else
  if h : t = 54 then castU h (dset54 ds) else
  none
def ty0 : Nat → Ty
  | 3 => .int .i64
  | 4 => .bool
  | 23 => .slice 3
  | 35 => .slice 23
  | 37 => .struct [(0, 3), (1, 35)]
  | 39 => .struct [(0, 3), (1, 3), (2, 3)]
  | 41 => .struct [(0, 3), (1, 35)]
  | 45 => .struct [(0, 3), (1, 3), (2, 3)]
  | 50 => .slice 39
  | 54 => .slice 45
  | 182 => .map 3 4
  | _ => .other
def ty (t : Nat) : Ty := bif Nat.ble 100000 t then .ref (t - 100000) else ty0 t
def size : Nat → Nat
  | 3 => 1
  | 4 => 1
  | 23 => 1
  | 35 => 1
  | 37 => 2
  | 39 => 3
  | 41 => 2
  | 45 => 3
  | 50 => 1
  | 54 => 1
  | _ => 0
def bytes : Nat → Nat
  | 3 => 8
  | 4 => 1
  | 23 => 24
  | 35 => 24
  | 37 => 32
  | 39 => 24
  | 41 => 32
  | 45 => 24
  | 50 => 24
  | 54 => 24
  | _ => 0
def zero : Nat → List Value
  | 3 => [.int .i64 0]
  | 4 => [.bool false]
  | 23 => [.slice none 0 0]
  | 35 => [.slice none 0 0]
  | 37 => [.int .i64 0, .slice none 0 0]
  | 39 => [.int .i64 0, .int .i64 0, .int .i64 0]
  | 41 => [.int .i64 0, .slice none 0 0]
  | 45 => [.int .i64 0, .int .i64 0, .int .i64 0]
  | 50 => [.slice none 0 0]
  | 54 => [.slice none 0 0]
  | _ => []
def ceq (t : Nat) : Bool := false
def sgs : List (Nat × Sig) := [(5, ⟨[37, 50], [.ro, .ro], .own⟩),
  (19, ⟨[37, 3], [.ro, .ro], .own⟩),
  (20, ⟨[41, 45], [.ro, .ro], .own⟩),
  (21, ⟨[37], [.ro], .own⟩),
  (22, ⟨[39], [.ro], .own⟩),
  (23, ⟨[41, 45], [.ro, .ro], .own⟩),
  (24, ⟨[41, 41], [.ro, .ro], .own⟩),
  (25, ⟨[41, 3], [.rws, .ro], .own⟩),
  (26, ⟨[41, 3], [.ro, .ro], .own⟩),
  (27, ⟨[50, 3], [.ro, .ro], .own⟩),
  (28, ⟨[41, 54], [.ro, .ro], .own⟩),
  (29, ⟨[50], [.ro], .own⟩),
  (30, ⟨[41, 54], [.ro, .ro], .own⟩),
  (31, ⟨[23, 23], [.ro, .ro], .own⟩),
  (32, ⟨[54, 54], [.ro, .ro], .own⟩),
  (33, ⟨[54, 3], [.rws, .ro], .own⟩),
  (34, ⟨[23, 3], [.rws, .ro], .own⟩),
  (35, ⟨[23, 3], [.ro, .ro], .own⟩),
  (83, ⟨[23, 3], [.ro, .ro], .own⟩),
  (88, ⟨[23], [.ro], .own⟩),
  (92, ⟨[35, 3], [.ro, .ro], .own⟩),
  (93, ⟨[41], [.ro], .own⟩),
  (94, ⟨[41], [.ro], .own⟩),
  (95, ⟨[41, 45], [.ro, .ro], .own⟩),
  (96, ⟨[41, 3], [.ro, .ro], .own⟩),
  (97, ⟨[41, 3, 3], [.rws, .ro, .ro], .own⟩),
  (98, ⟨[35], [.ro], .own⟩),
  (99, ⟨[41], [.ro], .own⟩),
  (100, ⟨[41], [.ro], .own⟩),
  (101, ⟨[3, 3, 3], [.ro, .ro, .ro], .own⟩),
  (102, ⟨[3], [.ro], .own⟩),
  (103, ⟨[41, 3], [.ro, .ro], .own⟩),
  (104, ⟨[23], [.ro], .own⟩),
  (105, ⟨[41, 3, 3], [.rws, .ro, .ro], .own⟩),
  (106, ⟨[35, 35], [.ro, .ro], .own⟩),
  (107, ⟨[35, 3], [.rws, .ro], .own⟩),
  (108, ⟨[35, 3], [.ro, .ro], .own⟩),
  (109, ⟨[45, 45], [.ro, .ro], .own⟩),
  (174, ⟨[3, 3, 3], [.ro, .ro, .ro], .own⟩),
  (179, ⟨[23, 3], [.ro, .ro], .own⟩),
  (181, ⟨[41, 3], [.ro, .ro], .own⟩),
  (182, ⟨[35], [.ro], .shal⟩)]
def lookS (f : Nat) : List (Nat × Sig) → Sig
  | [] => ⟨[], [], .own⟩
  | (g, s) :: r => bif Nat.beq f g then s else lookS f r
def sg (f : Nat) : Sig := lookS f sgs
def cap (f : Nat) : List Nat := []
def T : Tbl := { U := U, ty := ty, size := size, bytes := bytes, zero := zero, dget := dget, dset := dset, dflt := dflt, ceq := ceq, keq := fun _ _ _ => false, sg := sg, cap := cap }
theorem t_len : ∀ t x, (dget t x).length = size t := by
  intro t x
  unfold dget size
  split
  · rfl
  · rfl
  · rfl
  · rfl
  · rfl
  · rfl
  · rfl
  · rfl
  · rfl
  · rfl
  · rename_i h
    split <;> first | rfl | exact absurd rfl (h _) | simp_all
theorem t_get : ∀ t ds x, dset t ds = some x → dget t x = ds := by
  intro t ds x h
  by_cases e3 : t = 3
  · subst e3; exact get3 (show dset3 ds = some x from h)
  by_cases e4 : t = 4
  · subst e4; exact get4 (show dset4 ds = some x from h)
  by_cases e23 : t = 23
  · subst e23; exact get23 (show dset23 ds = some x from h)
  by_cases e35 : t = 35
  · subst e35; exact get35 (show dset35 ds = some x from h)
  by_cases e37 : t = 37
  · subst e37; exact get37 (show dset37 ds = some x from h)
  by_cases e39 : t = 39
  · subst e39; exact get39 (show dset39 ds = some x from h)
  by_cases e41 : t = 41
  · subst e41; exact get41 (show dset41 ds = some x from h)
  by_cases e45 : t = 45
  · subst e45; exact get45 (show dset45 ds = some x from h)
  by_cases e50 : t = 50
  · subst e50; exact get50 (show dset50 ds = some x from h)
  by_cases e54 : t = 54
  · subst e54; exact get54 (show dset54 ds = some x from h)
  unfold dset at h
  rw [dif_neg e3, dif_neg e4, dif_neg e23, dif_neg e35, dif_neg e37, dif_neg e39, dif_neg e41, dif_neg e45, dif_neg e50, dif_neg e54] at h
  cases h
theorem t_pat : ∀ t x, (dget t x).map D.isArr = (dget t (dflt t)).map D.isArr := by
  intro t x
  unfold dget
  split
  · rfl
  · rfl
  · rfl
  · rfl
  · rfl
  · rfl
  · rfl
  · rfl
  · rfl
  · rfl
  · rename_i h
    split <;> first | rfl | exact absurd rfl (h _) | simp_all
theorem t_slice : ∀ t e, ty t = .slice e → Try.prog.underlying t = some (.slice e) := by
  intro t e h
  unfold ty at h
  cases hb : Nat.ble 100000 t <;> rw [hb] at h
  · simp only [cond_false] at h
    unfold ty0 at h
    split at h
    · cases h
    · cases h
    · cases h; exact Try.underlying23
    · cases h; exact Try.underlying35
    · cases h
    · cases h
    · cases h
    · cases h
    · cases h; exact Try.underlying50
    · cases h; exact Try.underlying54
    · cases h
    · cases h
  · cases h
theorem t_arr : ∀ t n e, ty t = .arr n e → Try.prog.underlying t = some (.array n e) := by
  intro t n e h
  unfold ty at h
  cases hb : Nat.ble 100000 t <;> rw [hb] at h
  · simp only [cond_false] at h
    unfold ty0 at h
    split at h
    · cases h
    · cases h
    · cases h
    · cases h
    · cases h
    · cases h
    · cases h
    · cases h
    · cases h
    · cases h
    · cases h
    · cases h
  · cases h
theorem t_str : ∀ t, ty t = .str → Try.prog.underlying t = some .string := by
  intro t h
  unfold ty at h
  cases hb : Nat.ble 100000 t <;> rw [hb] at h
  · simp only [cond_false] at h
    unfold ty0 at h
    split at h
    · cases h
    · cases h
    · cases h
    · cases h
    · cases h
    · cases h
    · cases h
    · cases h
    · cases h
    · cases h
    · cases h
    · cases h
  · cases h
theorem t_bool : ∀ t, ty t = .bool → Try.prog.underlying t = some .bool := by
  intro t h
  unfold ty at h
  cases hb : Nat.ble 100000 t <;> rw [hb] at h
  · simp only [cond_false] at h
    unfold ty0 at h
    split at h
    · cases h
    · exact Try.underlying4
    · cases h
    · cases h
    · cases h
    · cases h
    · cases h
    · cases h
    · cases h
    · cases h
    · cases h
    · cases h
  · cases h
theorem t_int : ∀ t k, ty t = .int k → Try.prog.underlying t = some (.int k) := by
  intro t k h
  unfold ty at h
  cases hb : Nat.ble 100000 t <;> rw [hb] at h
  · simp only [cond_false] at h
    unfold ty0 at h
    split at h
    · cases h; exact Try.underlying3
    · cases h
    · cases h
    · cases h
    · cases h
    · cases h
    · cases h
    · cases h
    · cases h
    · cases h
    · cases h
    · cases h
  · cases h
theorem t_intC : ∀ t k, ty t = .int k → ∀ x, ∃ n, dget t x = [.int k n] := by
  intro t k h
  unfold ty at h
  cases hb : Nat.ble 100000 t <;> rw [hb] at h
  · simp only [cond_false] at h
    unfold ty0 at h
    split at h
    · cases h; exact fun x => ⟨x, rfl⟩
    · cases h
    · cases h
    · cases h
    · cases h
    · cases h
    · cases h
    · cases h
    · cases h
    · cases h
    · cases h
    · cases h
  · cases h
theorem t_ptr : ∀ t e, ty t = .ptr e → Try.prog.underlying t = some (.pointer e) := by
  intro t e h
  unfold ty at h
  cases hb : Nat.ble 100000 t <;> rw [hb] at h
  · simp only [cond_false] at h
    unfold ty0 at h
    split at h
    · cases h
    · cases h
    · cases h
    · cases h
    · cases h
    · cases h
    · cases h
    · cases h
    · cases h
    · cases h
    · cases h
    · cases h
  · cases h
theorem t_map : ∀ t k e, ty t = .map k e → Try.prog.underlying t = some (.map k e) := by
  intro t k e h
  unfold ty at h
  cases hb : Nat.ble 100000 t <;> rw [hb] at h
  · simp only [cond_false] at h
    unfold ty0 at h
    split at h
    · cases h
    · cases h
    · cases h
    · cases h
    · cases h
    · cases h
    · cases h
    · cases h
    · cases h
    · cases h
    · cases h; exact Try.underlying182
    · cases h
  · cases h
theorem t_struct : ∀ t fs, ty t = .struct fs → ∃ fields : Array Field, Try.prog.underlying t = some (.struct fields) ∧ fs = fields.toList.map (fun f => (f.offset, f.type)) ∧ (∀ f ∈ fields.toList, 0 < size f.type ∧ f.name ≠ "_") := by
  intro t fs h
  unfold ty at h
  cases hb : Nat.ble 100000 t <;> rw [hb] at h
  · simp only [cond_false] at h
    unfold ty0 at h
    split at h
    · cases h
    · cases h
    · cases h
    · cases h
    · cases h; exact ⟨_, Try.underlying37, rfl, fchk_ok (by rfl)⟩
    · cases h; exact ⟨_, Try.underlying39, rfl, fchk_ok (by rfl)⟩
    · cases h; exact ⟨_, Try.underlying41, rfl, fchk_ok (by rfl)⟩
    · cases h; exact ⟨_, Try.underlying45, rfl, fchk_ok (by rfl)⟩
    · cases h
    · cases h
    · cases h
    · cases h
  · cases h
theorem t_info : ∀ t, 0 < size t → ∃ i, Try.prog.info? t = some i ∧ i.size = size t ∧ i.bytes = bytes t ∧ ∃ z, i.zero = some z ∧ z.cells.toList = zero t ∧ (Go.Sm.isAgg T t = true → ∃ cs, z = .agg cs) := by
  intro t h
  unfold size at h
  split at h
  · exact ⟨Try.t3, by kernel_rfl, rfl, rfl, _, rfl, rfl, fun h => nomatch (show false = true from h)⟩
  · exact ⟨Try.t4, by kernel_rfl, rfl, rfl, _, rfl, rfl, fun h => nomatch (show false = true from h)⟩
  · exact ⟨Try.t23, by kernel_rfl, rfl, rfl, _, rfl, rfl, fun h => nomatch (show false = true from h)⟩
  · exact ⟨Try.t35, by kernel_rfl, rfl, rfl, _, rfl, rfl, fun h => nomatch (show false = true from h)⟩
  · exact ⟨Try.t37, by kernel_rfl, rfl, rfl, _, rfl, rfl, fun h => ⟨_, rfl⟩⟩
  · exact ⟨Try.t39, by kernel_rfl, rfl, rfl, _, rfl, rfl, fun h => ⟨_, rfl⟩⟩
  · exact ⟨Try.t41, by kernel_rfl, rfl, rfl, _, rfl, rfl, fun h => ⟨_, rfl⟩⟩
  · exact ⟨Try.t45, by kernel_rfl, rfl, rfl, _, rfl, rfl, fun h => ⟨_, rfl⟩⟩
  · exact ⟨Try.t50, by kernel_rfl, rfl, rfl, _, rfl, rfl, fun h => nomatch (show false = true from h)⟩
  · exact ⟨Try.t54, by kernel_rfl, rfl, rfl, _, rfl, rfl, fun h => nomatch (show false = true from h)⟩
  · exact absurd h (Nat.lt_irrefl _)
theorem t_agg : ∀ t, 0 < size t → ((match Try.prog.underlying t with | some (.struct _) => true | some (.array _ _) => true | _ => false) = Go.Sm.isAgg T t) := by
  intro t h
  unfold size at h
  split at h
  · rw [Try.underlying3]; rfl
  · rw [Try.underlying4]; rfl
  · rw [Try.underlying23]; rfl
  · rw [Try.underlying35]; rfl
  · rw [Try.underlying37]; rfl
  · rw [Try.underlying39]; rfl
  · rw [Try.underlying41]; rfl
  · rw [Try.underlying45]; rfl
  · rw [Try.underlying50]; rfl
  · rw [Try.underlying54]; rfl
  · exact absurd h (Nat.lt_irrefl _)
theorem t_und : ∀ t, 0 < size t → ∃ d, Try.prog.underlying t = some d := by
  intro t h
  unfold size at h
  split at h
  · exact ⟨_, Try.underlying3⟩
  · exact ⟨_, Try.underlying4⟩
  · exact ⟨_, Try.underlying23⟩
  · exact ⟨_, Try.underlying35⟩
  · exact ⟨_, Try.underlying37⟩
  · exact ⟨_, Try.underlying39⟩
  · exact ⟨_, Try.underlying41⟩
  · exact ⟨_, Try.underlying45⟩
  · exact ⟨_, Try.underlying50⟩
  · exact ⟨_, Try.underlying54⟩
  · exact absurd h (Nat.lt_irrefl _)
theorem t_zv : ∀ t, 0 < size t → Go.Sm.isAgg T t = false → ∃ i z, Try.prog.info? t = some i ∧ i.zero = some z ∧ ∀ cs, z ≠ .agg cs := by
  intro t h
  unfold size at h
  split at h
  · exact fun _ => ⟨Try.t3, .int .i64 0, by kernel_rfl, rfl, fun cs h => nomatch h⟩
  · exact fun _ => ⟨Try.t4, .bool false, by kernel_rfl, rfl, fun cs h => nomatch h⟩
  · exact fun _ => ⟨Try.t23, .slice none 0 0, by kernel_rfl, rfl, fun cs h => nomatch h⟩
  · exact fun _ => ⟨Try.t35, .slice none 0 0, by kernel_rfl, rfl, fun cs h => nomatch h⟩
  · exact fun h => nomatch (show true = false from h)
  · exact fun h => nomatch (show true = false from h)
  · exact fun h => nomatch (show true = false from h)
  · exact fun h => nomatch (show true = false from h)
  · exact fun _ => ⟨Try.t50, .slice none 0 0, by kernel_rfl, rfl, fun cs h => nomatch h⟩
  · exact fun _ => ⟨Try.t54, .slice none 0 0, by kernel_rfl, rfl, fun cs h => nomatch h⟩
  · exact absurd h (Nat.lt_irrefl _)
theorem t_zero : ∀ t, 0 < size t → (zero t).length = size t ∧ ∀ (j : Nat) (d : D U) (v : Value), (dget t (dflt t))[j]? = some d → (zero t)[j]? = some v → plainD (T := T) d v ∨ ∃ u, d = .arr u [] ∧ v = .slice none 0 0 := by
  intro t h
  have hh : zchk (U := U) (fun t l => isNilL t l) (dget t (dflt t)) (zero t) = true := by
    unfold size at h
    split at h
    · rfl
    · rfl
    · rfl
    · rfl
    · rfl
    · rfl
    · rfl
    · rfl
    · rfl
    · rfl
    · exact absurd h (Nat.lt_irrefl _)
  obtain ⟨h1, h2⟩ := zchk_ok (T := T) hh
  exact ⟨h1.trans (t_len _ _), h2⟩
theorem t_eqs : ∀ t, T.ceq t = true → EqOk Try.prog T t := by
  intro t h
  have h : ceq t = true := h
  unfold ceq at h
  cases h
theorem ok : TblOk Try.prog T := { len := t_len, get := t_get, pat := t_pat, slice := t_slice, arr := t_arr, str := t_str, bool := t_bool, int := t_int, intC := t_intC, struct := t_struct, ptr := t_ptr, map := t_map, info := t_info, agg := t_agg, zero := t_zero, und := t_und, zv := t_zv, eqs := t_eqs }
end Go.Sm.D5
