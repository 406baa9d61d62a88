import Derived.Test.YtjilmfkglikoeaaEngD
import Derived.Test.YtjilmfkglikoeaaB4Fn
import Derived.Test.YtjilmfkglikoeaaProg
/- The program's types as the evaluator sees them. -/
set_option linter.unusedSimpArgs false
set_option linter.deprecated false
set_option linter.unusedSectionVars false
set_option linter.unusedVariables false
set_option maxRecDepth 100000
open Go Go.Proofs
noncomputable section
namespace Go.Sm.B4
def UI : Nat → (α : Type) × α
  | 3 => ⟨Int, (0 : Int)⟩
  | 4 => ⟨Bool, false⟩
  | 24 => ⟨List (List Int), []⟩
  | 26 => ⟨SHull, dSHull⟩
  | 43 => ⟨SHull, dSHull⟩
  | 44 => ⟨List SRoom, []⟩
  | 49 => ⟨List SRoom, []⟩
  | 55 => ⟨List Int, []⟩
  | 166 => ⟨SRoom, dSRoom⟩
  | 169 => ⟨SRoom, dSRoom⟩
  | _ => ⟨Unit, ()⟩
abbrev U (t : Nat) : Type := (UI t).1
def dflt (t : Nat) : U t := (UI t).2
def dget : (t : Nat) → U t → List (D U)
  | 3, x => (fun (x : Int) => ([.int .i64 x] : List (D U))) x
  | 4, x => (fun (x : Bool) => ([.bool x] : List (D U))) x
  | 24, x => (fun (x : List (List Int)) => ([.arr 55 x] : List (D U))) x
  | 26, x => (fun (x : SHull) => ([.int .i64 x.Step, .int .i64 x.Rise, .arr 55 x.Half] : List (D U))) x
  | 43, x => (fun (x : SHull) => ([.int .i64 x.Step, .int .i64 x.Rise, .arr 55 x.Half] : List (D U))) x
  | 44, x => (fun (x : List SRoom) => ([.arr 169 x] : List (D U))) x
  | 49, x => (fun (x : List SRoom) => ([.arr 166 x] : List (D U))) x
  | 55, x => (fun (x : List Int) => ([.arr 3 x] : List (D U))) x
  | 166, x => (fun (x : SRoom) => ([.int .i64 x.First, .int .i64 x.Last, .int .i64 x.Perm] : List (D U))) x
  | 169, x => (fun (x : SRoom) => ([.int .i64 x.First, .int .i64 x.Last, .int .i64 x.Perm] : List (D U))) x
  | _, _ => []
def dset3 (ds : List (D U)) : Option Int := match ds with
  | [c0] => (intU .i64 c0).bind fun a0 => some (a0)
  | _ => none
theorem get3 {ds : List (D U)} {x : U 3} (h : dset3 ds = some x) : dget 3 x = ds := by
  unfold dset3 at h
  split at h
  · obtain ⟨a0, h0, h⟩ := Option.bind_eq_some_iff.1 h
    cases h
    rw [intU_eq h0]
    rfl
  · cases h
def dset4 (ds : List (D U)) : Option Bool := match ds with
  | [c0] => (boolU c0).bind fun a0 => some (a0)
  | _ => none
theorem get4 {ds : List (D U)} {x : U 4} (h : dset4 ds = some x) : dget 4 x = ds := by
  unfold dset4 at h
  split at h
  · obtain ⟨a0, h0, h⟩ := Option.bind_eq_some_iff.1 h
    cases h
    rw [boolU_eq h0]
    rfl
  · cases h
def dset24 (ds : List (D U)) : Option (List (List Int)) := match ds with
  | [c0] => (arrU 55 c0).bind fun a0 => some (a0)
  | _ => none
theorem get24 {ds : List (D U)} {x : U 24} (h : dset24 ds = some x) : dget 24 x = ds := by
  unfold dset24 at h
  split at h
  · obtain ⟨a0, h0, h⟩ := Option.bind_eq_some_iff.1 h
    cases h
    rw [arrU_eq h0]
    rfl
  · cases h
def dset26 (ds : List (D U)) : Option SHull := match ds with
  | [c0, c1, c2] => (intU .i64 c0).bind fun a0 => (intU .i64 c1).bind fun a1 => (arrU 55 c2).bind fun a2 => some ((⟨a0, a1, a2⟩ : SHull))
  | _ => none
theorem get26 {ds : List (D U)} {x : U 26} (h : dset26 ds = some x) : dget 26 x = ds := by
  unfold dset26 at h
  split at h
  · obtain ⟨a0, h0, h⟩ := Option.bind_eq_some_iff.1 h
    obtain ⟨a1, h1, h⟩ := Option.bind_eq_some_iff.1 h
    obtain ⟨a2, h2, h⟩ := Option.bind_eq_some_iff.1 h
    cases h
    rw [intU_eq h0, intU_eq h1, arrU_eq h2]
    rfl
  · cases h
def dset43 (ds : List (D U)) : Option SHull := match ds with
  | [c0, c1, c2] => (intU .i64 c0).bind fun a0 => (intU .i64 c1).bind fun a1 => (arrU 55 c2).bind fun a2 => some ((⟨a0, a1, a2⟩ : SHull))
  | _ => none
theorem get43 {ds : List (D U)} {x : U 43} (h : dset43 ds = some x) : dget 43 x = ds := by
  unfold dset43 at h
  split at h
  · obtain ⟨a0, h0, h⟩ := Option.bind_eq_some_iff.1 h
    obtain ⟨a1, h1, h⟩ := Option.bind_eq_some_iff.1 h
    obtain ⟨a2, h2, h⟩ := Option.bind_eq_some_iff.1 h
    cases h
    rw [intU_eq h0, intU_eq h1, arrU_eq h2]
    rfl
  · cases h
def dset44 (ds : List (D U)) : Option (List SRoom) := match ds with
  | [c0] => (arrU 169 c0).bind fun a0 => some (a0)
  | _ => none
theorem get44 {ds : List (D U)} {x : U 44} (h : dset44 ds = some x) : dget 44 x = ds := by
  unfold dset44 at h
  split at h
  · obtain ⟨a0, h0, h⟩ := Option.bind_eq_some_iff.1 h
    cases h
    rw [arrU_eq h0]
    rfl
  · cases h
def dset49 (ds : List (D U)) : Option (List SRoom) := match ds with
  | [c0] => (arrU 166 c0).bind fun a0 => some (a0)
  | _ => none
theorem get49 {ds : List (D U)} {x : U 49} (h : dset49 ds = some x) : dget 49 x = ds := by
  unfold dset49 at h
  split at h
  · obtain ⟨a0, h0, h⟩ := Option.bind_eq_some_iff.1 h
    cases h
    rw [arrU_eq h0]
    rfl
  · cases h
def dset55 (ds : List (D U)) : Option (List Int) := match ds with
  | [c0] => (arrU 3 c0).bind fun a0 => some (a0)
  | _ => none
theorem get55 {ds : List (D U)} {x : U 55} (h : dset55 ds = some x) : dget 55 x = ds := by
  unfold dset55 at h
  split at h
  · obtain ⟨a0, h0, h⟩ := Option.bind_eq_some_iff.1 h
    cases h
    rw [arrU_eq h0]
    rfl
  · cases h
def dset166 (ds : List (D U)) : Option SRoom := match ds with
  | [c0, c1, c2] => (intU .i64 c0).bind fun a0 => (intU .i64 c1).bind fun a1 => (intU .i64 c2).bind fun a2 => some ((⟨a0, a1, a2⟩ : SRoom))
  | _ => none
theorem get166 {ds : List (D U)} {x : U 166} (h : dset166 ds = some x) : dget 166 x = ds := by
  unfold dset166 at h
  split at h
  · obtain ⟨a0, h0, h⟩ := Option.bind_eq_some_iff.1 h
    obtain ⟨a1, h1, h⟩ := Option.bind_eq_some_iff.1 h
    obtain ⟨a2, h2, h⟩ := Option.bind_eq_some_iff.1 h
    cases h
    rw [intU_eq h0, intU_eq h1, intU_eq h2]
    rfl
  · cases h
def dset169 (ds : List (D U)) : Option SRoom := match ds with
  | [c0, c1, c2] => (intU .i64 c0).bind fun a0 => (intU .i64 c1).bind fun a1 => (intU .i64 c2).bind fun a2 => some ((⟨a0, a1, a2⟩ : SRoom))
  | _ => none
theorem get169 {ds : List (D U)} {x : U 169} (h : dset169 ds = some x) : dget 169 x = ds := by
  unfold dset169 at h
  split at h
  · obtain ⟨a0, h0, h⟩ := Option.bind_eq_some_iff.1 h
    obtain ⟨a1, h1, h⟩ := Option.bind_eq_some_iff.1 h
    obtain ⟨a2, h2, h⟩ := Option.bind_eq_some_iff.1 h
    cases h
    rw [intU_eq h0, intU_eq h1, intU_eq h2]
    rfl
  · cases h
def castU {t t2 : Nat} (h : t2 = t) (x : Option (U t)) : Option (U t2) := h ▸ x
def dset (t : Nat) (ds : List (D U)) : Option (U t) :=
  if h : t = 3 then castU h (dset3 ds) else
  if h : t = 4 then castU h (dset4 ds) else
  if h : t = 24 then castU h (dset24 ds) else
  if h : t = 26 then castU h (dset26 ds) else
  if h : t = 43 then castU h (dset43 ds) else
  if h : t = 44 then castU h (dset44 ds) else
  if h : t = 49 then castU h (dset49 ds) else
  if h : t = 55 then castU h (dset55 ds) else
  if h : t = 166 then castU h (dset166 ds) else
  if h : t = 169 then castU h (dset169 ds) else
  none
def ty0 : Nat → Ty
  | 3 => .int .i64
  | 4 => .bool
  | 24 => .slice 55
  | 26 => .struct [(0, 3), (1, 3), (2, 24)]
  | 43 => .struct [(0, 3), (1, 3), (2, 24)]
  | 44 => .slice 169
  | 49 => .slice 166
  | 55 => .slice 3
  | 166 => .struct [(0, 3), (1, 3), (2, 3)]
  | 169 => .struct [(0, 3), (1, 3), (2, 3)]
  | 207 => .map 3 4
  | _ => .other
def ty (t : Nat) : Ty := bif Nat.ble 100000 t then .ref (t - 100000) else ty0 t
def size : Nat → Nat
  | 3 => 1
  | 4 => 1
  | 24 => 1
  | 26 => 3
  | 43 => 3
  | 44 => 1
  | 49 => 1
  | 55 => 1
  | 166 => 3
  | 169 => 3
  | _ => 0
def bytes : Nat → Nat
  | 3 => 8
  | 4 => 1
  | 24 => 24
  | 26 => 40
  | 43 => 40
  | 44 => 24
  | 49 => 24
  | 55 => 24
  | 166 => 24
  | 169 => 24
  | _ => 0
def zero : Nat → List Value
  | 3 => [.int .i64 0]
  | 4 => [.bool false]
  | 24 => [.slice none 0 0]
  | 26 => [.int .i64 0, .int .i64 0, .slice none 0 0]
  | 43 => [.int .i64 0, .int .i64 0, .slice none 0 0]
  | 44 => [.slice none 0 0]
  | 49 => [.slice none 0 0]
  | 55 => [.slice none 0 0]
  | 166 => [.int .i64 0, .int .i64 0, .int .i64 0]
  | 169 => [.int .i64 0, .int .i64 0, .int .i64 0]
  | _ => []
def ceq (t : Nat) : Bool := false
def sgs : List (Nat × Sig) := [(4, ⟨[43, 44], [.ro, .ro], .own⟩),
  (22, ⟨[43, 3], [.ro, .ro], .own⟩),
  (23, ⟨[44, 3], [.ro, .ro], .own⟩),
  (24, ⟨[26, 49], [.ro, .ro], .own⟩),
  (25, ⟨[43], [.ro], .own⟩),
  (26, ⟨[44], [.ro], .own⟩),
  (27, ⟨[26, 49], [.ro, .ro], .own⟩),
  (28, ⟨[26, 26], [.ro, .ro], .own⟩),
  (29, ⟨[49, 49], [.ro, .ro], .own⟩),
  (30, ⟨[26, 3], [.rws, .ro], .own⟩),
  (31, ⟨[49, 3], [.rws, .ro], .own⟩),
  (32, ⟨[26, 3], [.ro, .ro], .own⟩),
  (37, ⟨[55, 55], [.ro, .ro], .own⟩),
  (40, ⟨[55, 3], [.rws, .ro], .own⟩),
  (41, ⟨[55, 3], [.ro, .ro], .own⟩),
  (98, ⟨[24, 3], [.ro, .ro], .own⟩),
  (99, ⟨[26, 49], [.ro, .ro], .own⟩),
  (100, ⟨[3, 3, 3], [.ro, .ro, .ro], .own⟩),
  (101, ⟨[24], [.ro], .own⟩),
  (102, ⟨[169], [.ro], .own⟩),
  (103, ⟨[26, 49], [.ro, .ro], .own⟩),
  (104, ⟨[55], [.ro], .own⟩),
  (105, ⟨[24], [.mv], .own⟩),
  (106, ⟨[24, 24], [.ro, .ro], .own⟩),
  (107, ⟨[166, 166], [.ro, .ro], .own⟩),
  (108, ⟨[24, 3], [.rws, .ro], .own⟩),
  (109, ⟨[24, 3], [.ro, .ro], .own⟩),
  (110, ⟨[55, 3], [.ro, .ro], .own⟩),
  (112, ⟨[55], [.ro], .own⟩),
  (119, ⟨[3, 3, 3], [.ro, .ro, .ro], .own⟩),
  (120, ⟨[55, 3, 3], [.ro, .ro, .ro], .own⟩),
  (158, ⟨[55, 178], [.ro, .ro], .own⟩),
  (189, ⟨[26], [.ro], .own⟩),
  (190, ⟨[26], [.ro], .own⟩),
  (196, ⟨[3, 100003, 100003], [.ro, .ro, .ro], .own⟩),
  (222, ⟨[55, 178], [.ro, .ro], .own⟩)]
def lookS (f : Nat) : List (Nat × Sig) → Sig
  | [] => ⟨[], [], .own⟩
  | (g, s) :: r => bif Nat.beq f g then s else lookS f r
def sg (f : Nat) : Sig := lookS f sgs
def cap (f : Nat) : List Nat := bif Nat.beq f 196 then [100003, 100003] else []
def T : Tbl := { U := U, ty := ty, size := size, bytes := bytes, zero := zero, dget := dget, dset := dset, dflt := dflt, ceq := ceq, keq := fun _ _ _ => false, sg := sg, cap := cap }
theorem t_len : ∀ t x, (dget t x).length = size t := by
  intro t x
  unfold dget size
  split
  · rfl
  · rfl
  · rfl
  · rfl
  · rfl
  · rfl
  · rfl
  · rfl
  · rfl
  · rfl
  · rename_i h
    split <;> first | rfl | exact absurd rfl (h _) | simp_all
theorem t_get : ∀ t ds x, dset t ds = some x → dget t x = ds := by
  intro t ds x h
  by_cases e3 : t = 3
  · subst e3; exact get3 (show dset3 ds = some x from h)
  by_cases e4 : t = 4
  · subst e4; exact get4 (show dset4 ds = some x from h)
  by_cases e24 : t = 24
  · subst e24; exact get24 (show dset24 ds = some x from h)
  by_cases e26 : t = 26
  · subst e26; exact get26 (show dset26 ds = some x from h)
  by_cases e43 : t = 43
  · subst e43; exact get43 (show dset43 ds = some x from h)
  by_cases e44 : t = 44
  · subst e44; exact get44 (show dset44 ds = some x from h)
  by_cases e49 : t = 49
  · subst e49; exact get49 (show dset49 ds = some x from h)
  by_cases e55 : t = 55
  · subst e55; exact get55 (show dset55 ds = some x from h)
  by_cases e166 : t = 166
  · subst e166; exact get166 (show dset166 ds = some x from h)
  by_cases e169 : t = 169
  · subst e169; exact get169 (show dset169 ds = some x from h)
  unfold dset at h
  rw [dif_neg e3, dif_neg e4, dif_neg e24, dif_neg e26, dif_neg e43, dif_neg e44, dif_neg e49, dif_neg e55, dif_neg e166, dif_neg e169] at h
  cases h
theorem t_pat : ∀ t x, (dget t x).map D.isArr = (dget t (dflt t)).map D.isArr := by
  intro t x
  unfold dget
  split
  · rfl
  · rfl
  · rfl
  · rfl
  · rfl
  · rfl
  · rfl
  · rfl
  · rfl
  · rfl
  · rename_i h
    split <;> first | rfl | exact absurd rfl (h _) | simp_all
theorem t_slice : ∀ t e, ty t = .slice e → Try.prog.underlying t = some (.slice e) := by
  intro t e h
  unfold ty at h
  cases hb : Nat.ble 100000 t <;> rw [hb] at h
  · simp only [cond_false] at h
    unfold ty0 at h
    split at h
    · cases h
    · cases h
    · cases h; exact Try.underlying24
    · cases h
    · cases h
    · cases h; exact Try.underlying44
    · cases h; exact Try.underlying49
    · cases h; exact Try.underlying55
    · cases h
    · cases h
    · cases h
    · cases h
  · cases h
theorem t_arr : ∀ t n e, ty t = .arr n e → Try.prog.underlying t = some (.array n e) := by
  intro t n e h
  unfold ty at h
  cases hb : Nat.ble 100000 t <;> rw [hb] at h
  · simp only [cond_false] at h
    unfold ty0 at h
    split at h
    · cases h
    · cases h
    · cases h
    · cases h
    · cases h
    · cases h
    · cases h
    · cases h
    · cases h
    · cases h
    · cases h
    · cases h
  · cases h
theorem t_str : ∀ t, ty t = .str → Try.prog.underlying t = some .string := by
  intro t h
  unfold ty at h
  cases hb : Nat.ble 100000 t <;> rw [hb] at h
  · simp only [cond_false] at h
    unfold ty0 at h
    split at h
    · cases h
    · cases h
    · cases h
    · cases h
    · cases h
    · cases h
    · cases h
    · cases h
    · cases h
    · cases h
    · cases h
    · cases h
  · cases h
theorem t_bool : ∀ t, ty t = .bool → Try.prog.underlying t = some .bool := by
  intro t h
  unfold ty at h
  cases hb : Nat.ble 100000 t <;> rw [hb] at h
  · simp only [cond_false] at h
    unfold ty0 at h
    split at h
    · cases h
    · exact Try.underlying4
    · cases h
    · cases h
    · cases h
    · cases h
    · cases h
    · cases h
    · cases h
    · cases h
    · cases h
    · cases h
  · cases h
theorem t_int : ∀ t k, ty t = .int k → Try.prog.underlying t = some (.int k) := by
  intro t k h
  unfold ty at h
  cases hb : Nat.ble 100000 t <;> rw [hb] at h
  · simp only [cond_false] at h
    unfold ty0 at h
    split at h
    · cases h; exact Try.underlying3
    · cases h
    · cases h
    · cases h
    · cases h
    · cases h
    · cases h
    · cases h
    · cases h
    · cases h
    · cases h
    · cases h
  · cases h
theorem t_intC : ∀ t k, ty t = .int k → ∀ x, ∃ n, dget t x = [.int k n] := by
  intro t k h
  unfold ty at h
  cases hb : Nat.ble 100000 t <;> rw [hb] at h
  · simp only [cond_false] at h
    unfold ty0 at h
    split at h
    · cases h; exact fun x => ⟨x, rfl⟩
    · cases h
    · cases h
    · cases h
    · cases h
    · cases h
    · cases h
    · cases h
    · cases h
    · cases h
    · cases h
    · cases h
  · cases h
theorem t_ptr : ∀ t e, ty t = .ptr e → Try.prog.underlying t = some (.pointer e) := by
  intro t e h
  unfold ty at h
  cases hb : Nat.ble 100000 t <;> rw [hb] at h
  · simp only [cond_false] at h
    unfold ty0 at h
    split at h
    · cases h
    · cases h
    · cases h
    · cases h
    · cases h
    · cases h
    · cases h
    · cases h
    · cases h
    · cases h
    · cases h
    · cases h
  · cases h
theorem t_map : ∀ t k e, ty t = .map k e → Try.prog.underlying t = some (.map k e) := by
  intro t k e h
  unfold ty at h
  cases hb : Nat.ble 100000 t <;> rw [hb] at h
  · simp only [cond_false] at h
    unfold ty0 at h
    split at h
    · cases h
    · cases h
    · cases h
    · cases h
    · cases h
    · cases h
    · cases h
    · cases h
    · cases h
    · cases h
    · cases h; exact Try.underlying207
    · cases h
  · cases h
theorem t_struct : ∀ t fs, ty t = .struct fs → ∃ fields : Array Field, Try.prog.underlying t = some (.struct fields) ∧ fs = fields.toList.map (fun f => (f.offset, f.type)) ∧ (∀ f ∈ fields.toList, 0 < size f.type ∧ f.name ≠ "_") := by
  intro t fs h
  unfold ty at h
  cases hb : Nat.ble 100000 t <;> rw [hb] at h
  · simp only [cond_false] at h
    unfold ty0 at h
    split at h
    · cases h
    · cases h
    · cases h
    · cases h; exact ⟨_, Try.underlying26, rfl, fchk_ok (by rfl)⟩
    · cases h; exact ⟨_, Try.underlying43, rfl, fchk_ok (by rfl)⟩
    · cases h
    · cases h
    · cases h
    · cases h; exact ⟨_, Try.underlying166, rfl, fchk_ok (by rfl)⟩
    · cases h; exact ⟨_, Try.underlying169, rfl, fchk_ok (by rfl)⟩
    · cases h
    · cases h
  · cases h
theorem t_info : ∀ t, 0 < size t → ∃ i, Try.prog.info? t = some i ∧ i.size = size t ∧ i.bytes = bytes t ∧ ∃ z, i.zero = some z ∧ z.cells.toList = zero t ∧ (Go.Sm.isAgg T t = true → ∃ cs, z = .agg cs) := by
  intro t h
  unfold size at h
  split at h
  · exact ⟨Try.t3, by kernel_rfl, rfl, rfl, _, rfl, rfl, fun h => nomatch (show false = true from h)⟩
  · exact ⟨Try.t4, by kernel_rfl, rfl, rfl, _, rfl, rfl, fun h => nomatch (show false = true from h)⟩
  · exact ⟨Try.t24, by kernel_rfl, rfl, rfl, _, rfl, rfl, fun h => nomatch (show false = true from h)⟩
  · exact ⟨Try.t26, by kernel_rfl, rfl, rfl, _, rfl, rfl, fun h => ⟨_, rfl⟩⟩
  · exact ⟨Try.t43, by kernel_rfl, rfl, rfl, _, rfl, rfl, fun h => ⟨_, rfl⟩⟩
  · exact ⟨Try.t44, by kernel_rfl, rfl, rfl, _, rfl, rfl, fun h => nomatch (show false = true from h)⟩
  · exact ⟨Try.t49, by kernel_rfl, rfl, rfl, _, rfl, rfl, fun h => nomatch (show false = true from h)⟩
  · exact ⟨Try.t55, by kernel_rfl, rfl, rfl, _, rfl, rfl, fun h => nomatch (show false = true from h)⟩
  · exact ⟨Try.t166, by kernel_rfl, rfl, rfl, _, rfl, rfl, fun h => ⟨_, rfl⟩⟩
  · exact ⟨Try.t169, by kernel_rfl, rfl, rfl, _, rfl, rfl, fun h => ⟨_, rfl⟩⟩
  · exact absurd h (Nat.lt_irrefl _)
theorem t_agg : ∀ t, 0 < size t → ((match Try.prog.underlying t with | some (.struct _) => true | some (.array _ _) => true | _ => false) = Go.Sm.isAgg T t) := by
  intro t h
  unfold size at h
  split at h
  · rw [Try.underlying3]; rfl
  · rw [Try.underlying4]; rfl
  · rw [Try.underlying24]; rfl
  · rw [Try.underlying26]; rfl
  · rw [Try.underlying43]; rfl
  · rw [Try.underlying44]; rfl
  · rw [Try.underlying49]; rfl
  · rw [Try.underlying55]; rfl
  · rw [Try.underlying166]; rfl
  · rw [Try.underlying169]; rfl
  · exact absurd h (Nat.lt_irrefl _)
theorem t_und : ∀ t, 0 < size t → ∃ d, Try.prog.underlying t = some d := by
  intro t h
  unfold size at h
  split at h
  · exact ⟨_, Try.underlying3⟩
  · exact ⟨_, Try.underlying4⟩
  · exact ⟨_, Try.underlying24⟩
  · exact ⟨_, Try.underlying26⟩
  · exact ⟨_, Try.underlying43⟩
  · exact ⟨_, Try.underlying44⟩
  · exact ⟨_, Try.underlying49⟩
  · exact ⟨_, Try.underlying55⟩
  · exact ⟨_, Try.underlying166⟩
  · exact ⟨_, Try.underlying169⟩
  · exact absurd h (Nat.lt_irrefl _)
theorem t_zv : ∀ t, 0 < size t → Go.Sm.isAgg T t = false → ∃ i z, Try.prog.info? t = some i ∧ i.zero = some z ∧ ∀ cs, z ≠ .agg cs := by
  intro t h
  unfold size at h
  split at h
  · exact fun _ => ⟨Try.t3, .int .i64 0, by kernel_rfl, rfl, fun cs h => nomatch h⟩
  · exact fun _ => ⟨Try.t4, .bool false, by kernel_rfl, rfl, fun cs h => nomatch h⟩
  · exact fun _ => ⟨Try.t24, .slice none 0 0, by kernel_rfl, rfl, fun cs h => nomatch h⟩
  · exact fun h => nomatch (show true = false from h)
  · exact fun h => nomatch (show true = false from h)
  · exact fun _ => ⟨Try.t44, .slice none 0 0, by kernel_rfl, rfl, fun cs h => nomatch h⟩
  · exact fun _ => ⟨Try.t49, .slice none 0 0, by kernel_rfl, rfl, fun cs h => nomatch h⟩
  · exact fun _ => ⟨Try.t55, .slice none 0 0, by kernel_rfl, rfl, fun cs h => nomatch h⟩
  · exact fun h => nomatch (show true = false from h)
  · exact fun h => nomatch (show true = false from h)
  · exact absurd h (Nat.lt_irrefl _)
theorem t_zero : ∀ t, 0 < size t → (zero t).length = size t ∧ ∀ (j : Nat) (d : D U) (v : Value), (dget t (dflt t))[j]? = some d → (zero t)[j]? = some v → plainD (T := T) d v ∨ ∃ u, d = .arr u [] ∧ v = .slice none 0 0 := by
  intro t h
  have hh : zchk (U := U) (fun t l => isNilL t l) (dget t (dflt t)) (zero t) = true := by
    unfold size at h
    split at h
    · rfl
    · rfl
    · rfl
    · rfl
    · rfl
    · rfl
    · rfl
    · rfl
    · rfl
    · rfl
    · exact absurd h (Nat.lt_irrefl _)
  obtain ⟨h1, h2⟩ := zchk_ok (T := T) hh
  exact ⟨h1.trans (t_len _ _), h2⟩
theorem t_eqs : ∀ t, T.ceq t = true → EqOk Try.prog T t := by
  intro t h
  have h : ceq t = true := h
  unfold ceq at h
  cases h
theorem ok : TblOk Try.prog T := { len := t_len, get := t_get, pat := t_pat, slice := t_slice, arr := t_arr, str := t_str, bool := t_bool, int := t_int, intC := t_intC, struct := t_struct, ptr := t_ptr, map := t_map, info := t_info, agg := t_agg, zero := t_zero, und := t_und, zv := t_zv, eqs := t_eqs }
end Go.Sm.B4
