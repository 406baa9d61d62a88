import Derived.Test.YtojjoinjabogbaaEngC
import Derived.Test.YtojjoinjabogbaaA7Fn
import Derived.Test.YtojjoinjabogbaaProg
/- The program's types as the evaluator sees them. -/
set_option linter.unusedSimpArgs false
set_option linter.deprecated false
set_option linter.unusedSectionVars false
set_option linter.unusedVariables false
set_option maxRecDepth 100000
open Go Go.Proofs
noncomputable section
namespace Go.Sm.A7
def UI : Nat → (α : Type) × α
  | 3 => ⟨Int, (0 : Int)⟩
  | 4 => ⟨Bool, false⟩
  | 24 => ⟨List Int, []⟩
  | 67 => ⟨List SFuel, []⟩
  | 68 => ⟨List SPump, []⟩
  | 71 => ⟨List SFuel, []⟩
  | 75 => ⟨List SPump, []⟩
  | 185 => ⟨SPump, dSPump⟩
  | 187 => ⟨SFuel, dSFuel⟩
  | 189 => ⟨SFuel, dSFuel⟩
  | 191 => ⟨SPump, dSPump⟩
  | _ => ⟨Unit, ()⟩
abbrev U (t : Nat) : Type := (UI t).1
def dflt (t : Nat) : U t := (UI t).2
def dget : (t : Nat) → U t → List (D U)
  | 3, x => (fun (x : Int) => ([.int .i64 x] : List (D U))) x
  | 4, x => (fun (x : Bool) => ([.bool x] : List (D U))) x
  | 24, x => (fun (x : List Int) => ([.arr 3 x] : List (D U))) x
  | 67, x => (fun (x : List SFuel) => ([.arr 189 x] : List (D U))) x
  | 68, x => (fun (x : List SPump) => ([.arr 191 x] : List (D U))) x
  | 71, x => (fun (x : List SFuel) => ([.arr 187 x] : List (D U))) x
  | 75, x => (fun (x : List SPump) => ([.arr 185 x] : List (D U))) x
  | 185, x => (fun (x : SPump) => ([.int .i64 x.From, .int .i64 x.To, .int .i64 x.Many] : List (D U))) x
  | 187, x => (fun (x : SFuel) => ([.int .i64 x.Has, .int .i64 x.Most] : List (D U))) x
  | 189, x => (fun (x : SFuel) => ([.int .i64 x.Has, .int .i64 x.Most] : List (D U))) x
  | 191, x => (fun (x : SPump) => ([.int .i64 x.From, .int .i64 x.To, .int .i64 x.Many] : List (D U))) x
  | _, _ => []
def dset3 (ds : List (D U)) : Option Int := match ds with
  | [c0] => (intU .i64 c0).bind fun a0 => some (a0)
  | _ => none
theorem get3 {ds : List (D U)} {x : U 3} (h : dset3 ds = some x) : dget 3 x = ds := by
  unfold dset3 at h
  split at h
  · obtain ⟨a0, h0, h⟩ := Option.bind_eq_some_iff.1 h
    cases h
    rw [intU_eq h0]
    rfl
  · cases h
def dset4 (ds : List (D U)) : Option Bool := match ds with
  | [c0] => (boolU c0).bind fun a0 => some (a0)
  | _ => none
theorem get4 {ds : List (D U)} {x : U 4} (h : dset4 ds = some x) : dget 4 x = ds := by
  unfold dset4 at h
  split at h
  · obtain ⟨a0, h0, h⟩ := Option.bind_eq_some_iff.1 h
    cases h
    rw [boolU_eq h0]
    rfl
  · cases h
def dset24 (ds : List (D U)) : Option (List Int) := match ds with
  | [c0] => (arrU 3 c0).bind fun a0 => some (a0)
  | _ => none
theorem get24 {ds : List (D U)} {x : U 24} (h : dset24 ds = some x) : dget 24 x = ds := by
  unfold dset24 at h
  split at h
  · obtain ⟨a0, h0, h⟩ := Option.bind_eq_some_iff.1 h
    cases h
    rw [arrU_eq h0]
    rfl
  · cases h
def dset67 (ds : List (D U)) : Option (List SFuel) := match ds with
  | [c0] => (arrU 189 c0).bind fun a0 => some (a0)
  | _ => none
theorem get67 {ds : List (D U)} {x : U 67} (h : dset67 ds = some x) : dget 67 x = ds := by
  unfold dset67 at h
  split at h
  · obtain ⟨a0, h0, h⟩ := Option.bind_eq_some_iff.1 h
    cases h
    rw [arrU_eq h0]
    rfl
  · cases h
def dset68 (ds : List (D U)) : Option (List SPump) := match ds with
  | [c0] => (arrU 191 c0).bind fun a0 => some (a0)
  | _ => none
theorem get68 {ds : List (D U)} {x : U 68} (h : dset68 ds = some x) : dget 68 x = ds := by
  unfold dset68 at h
  split at h
  · obtain ⟨a0, h0, h⟩ := Option.bind_eq_some_iff.1 h
    cases h
    rw [arrU_eq h0]
    rfl
  · cases h
def dset71 (ds : List (D U)) : Option (List SFuel) := match ds with
  | [c0] => (arrU 187 c0).bind fun a0 => some (a0)
  | _ => none
theorem get71 {ds : List (D U)} {x : U 71} (h : dset71 ds = some x) : dget 71 x = ds := by
  unfold dset71 at h
  split at h
  · obtain ⟨a0, h0, h⟩ := Option.bind_eq_some_iff.1 h
    cases h
    rw [arrU_eq h0]
    rfl
  · cases h
def dset75 (ds : List (D U)) : Option (List SPump) := match ds with
  | [c0] => (arrU 185 c0).bind fun a0 => some (a0)
  | _ => none
theorem get75 {ds : List (D U)} {x : U 75} (h : dset75 ds = some x) : dget 75 x = ds := by
  unfold dset75 at h
  split at h
  · obtain ⟨a0, h0, h⟩ := Option.bind_eq_some_iff.1 h
    cases h
    rw [arrU_eq h0]
    rfl
  · cases h
def dset185 (ds : List (D U)) : Option SPump := match ds with
  | [c0, c1, c2] => (intU .i64 c0).bind fun a0 => (intU .i64 c1).bind fun a1 => (intU .i64 c2).bind fun a2 => some ((⟨a0, a1, a2⟩ : SPump))
  | _ => none
theorem get185 {ds : List (D U)} {x : U 185} (h : dset185 ds = some x) : dget 185 x = ds := by
  unfold dset185 at h
  split at h
  · obtain ⟨a0, h0, h⟩ := Option.bind_eq_some_iff.1 h
    obtain ⟨a1, h1, h⟩ := Option.bind_eq_some_iff.1 h
    obtain ⟨a2, h2, h⟩ := Option.bind_eq_some_iff.1 h
    cases h
    rw [intU_eq h0, intU_eq h1, intU_eq h2]
    rfl
  · cases h
def dset187 (ds : List (D U)) : Option SFuel := match ds with
  | [c0, c1] => (intU .i64 c0).bind fun a0 => (intU .i64 c1).bind fun a1 => some ((⟨a0, a1⟩ : SFuel))
  | _ => none
theorem get187 {ds : List (D U)} {x : U 187} (h : dset187 ds = some x) : dget 187 x = ds := by
  unfold dset187 at h
  split at h
  · obtain ⟨a0, h0, h⟩ := Option.bind_eq_some_iff.1 h
    obtain ⟨a1, h1, h⟩ := Option.bind_eq_some_iff.1 h
    cases h
    rw [intU_eq h0, intU_eq h1]
    rfl
  · cases h
def dset189 (ds : List (D U)) : Option SFuel := match ds with
  | [c0, c1] => (intU .i64 c0).bind fun a0 => (intU .i64 c1).bind fun a1 => some ((⟨a0, a1⟩ : SFuel))
  | _ => none
theorem get189 {ds : List (D U)} {x : U 189} (h : dset189 ds = some x) : dget 189 x = ds := by
  unfold dset189 at h
  split at h
  · obtain ⟨a0, h0, h⟩ := Option.bind_eq_some_iff.1 h
    obtain ⟨a1, h1, h⟩ := Option.bind_eq_some_iff.1 h
    cases h
    rw [intU_eq h0, intU_eq h1]
    rfl
  · cases h
def dset191 (ds : List (D U)) : Option SPump := match ds with
  | [c0, c1, c2] => (intU .i64 c0).bind fun a0 => (intU .i64 c1).bind fun a1 => (intU .i64 c2).bind fun a2 => some ((⟨a0, a1, a2⟩ : SPump))
  | _ => none
theorem get191 {ds : List (D U)} {x : U 191} (h : dset191 ds = some x) : dget 191 x = ds := by
  unfold dset191 at h
  split at h
  · obtain ⟨a0, h0, h⟩ := Option.bind_eq_some_iff.1 h
    obtain ⟨a1, h1, h⟩ := Option.bind_eq_some_iff.1 h
    obtain ⟨a2, h2, h⟩ := Option.bind_eq_some_iff.1 h
    cases h
    rw [intU_eq h0, intU_eq h1, intU_eq h2]
    rfl
  · cases h
def castU {t t2 : Nat} (h : t2 = t) (x : Option (U t)) : Option (U t2) := h ▸ x
def dset (t : Nat) (ds : List (D U)) : Option (U t) :=
  if h : t = 3 then castU h (dset3 ds) else
  if h : t = 4 then castU h (dset4 ds) else
  if h : t = 24 then castU h (dset24 ds) else
  if h : t = 67 then castU h (dset67 ds) else
  if h : t = 68 then castU h (dset68 ds) else
  if h : t = 71 then castU h (dset71 ds) else
  if h : t = 75 then castU h (dset75 ds) else
  if h : t = 185 then castU h (dset185 ds) else
  if h : t = 187 then castU h (dset187 ds) else
  if h : t = 189 then castU h (dset189 ds) else
  if h : t = 191 then castU h (dset191 ds) else
  none
def ty0 : Nat → Ty
  | 3 => .int .i64
  | 4 => .bool
  | 24 => .slice 3
  | 67 => .slice 189
  | 68 => .slice 191
  | 71 => .slice 187
  | 75 => .slice 185
  | 185 => .struct [(0, 3), (1, 3), (2, 3)]
  | 187 => .struct [(0, 3), (1, 3)]
  | 189 => .struct [(0, 3), (1, 3)]
  | 191 => .struct [(0, 3), (1, 3), (2, 3)]
  | _ => .other
def ty (t : Nat) : Ty := bif Nat.ble 100000 t then .ref (t - 100000) else ty0 t
def size : Nat → Nat
  | 3 => 1
  | 4 => 1
  | 24 => 1
  | 67 => 1
  | 68 => 1
  | 71 => 1
  | 75 => 1
  | 185 => 3
  | 187 => 2
  | 189 => 2
  | 191 => 3
  | _ => 0
def bytes : Nat → Nat
  | 3 => 8
  | 4 => 1
  | 24 => 24
  | 67 => 24
  | 68 => 24
  | 71 => 24
  | 75 => 24
  | 185 => 24
  | 187 => 16
  | 189 => 16
  | 191 => 24
  | _ => 0
def zero : Nat → List Value
  | 3 => [.int .i64 0]
  | 4 => [.bool false]
  | 24 => [.slice none 0 0]
  | 67 => [.slice none 0 0]
  | 68 => [.slice none 0 0]
  | 71 => [.slice none 0 0]
  | 75 => [.slice none 0 0]
  | 185 => [.int .i64 0, .int .i64 0, .int .i64 0]
  | 187 => [.int .i64 0, .int .i64 0]
  | 189 => [.int .i64 0, .int .i64 0]
  | 191 => [.int .i64 0, .int .i64 0, .int .i64 0]
  | _ => []
def ceq (t : Nat) : Bool := false
def sgs : List (Nat × Sig) := [(7, ⟨[67, 68], [.ro, .ro], .own⟩),
  (19, ⟨[24, 24], [.ro, .ro], .own⟩),
  (22, ⟨[24, 3], [.rws, .ro], .own⟩),
  (23, ⟨[24, 3], [.ro, .ro], .own⟩),
  (48, ⟨[67, 3], [.ro, .ro], .own⟩),
  (49, ⟨[68, 3], [.ro, .ro], .own⟩),
  (50, ⟨[71, 75], [.ro, .ro], .own⟩),
  (51, ⟨[67], [.ro], .own⟩),
  (52, ⟨[68], [.ro], .own⟩),
  (53, ⟨[71, 75], [.ro, .ro], .own⟩),
  (54, ⟨[71, 71], [.ro, .ro], .own⟩),
  (55, ⟨[75, 75], [.ro, .ro], .own⟩),
  (56, ⟨[71, 3], [.rws, .ro], .own⟩),
  (57, ⟨[75, 3], [.rws, .ro], .own⟩),
  (58, ⟨[71, 3], [.ro, .ro], .own⟩),
  (101, ⟨[3, 3, 3], [.ro, .ro, .ro], .own⟩),
  (106, ⟨[24], [.ro], .own⟩),
  (113, ⟨[3, 3, 3], [.ro, .ro, .ro], .own⟩),
  (134, ⟨[71, 185], [.ro, .ro], .own⟩),
  (135, ⟨[189], [.ro], .own⟩),
  (136, ⟨[191], [.ro], .own⟩),
  (137, ⟨[71], [.ro], .own⟩),
  (138, ⟨[71, 185], [.ro, .ro], .own⟩),
  (139, ⟨[187, 187], [.ro, .ro], .own⟩),
  (140, ⟨[185, 185], [.ro, .ro], .own⟩),
  (219, ⟨[71], [.ro], .own⟩),
  (220, ⟨[71], [.ro], .own⟩),
  (249, ⟨[71, 288], [.ro, .ro], .own⟩),
  (250, ⟨[187], [.ro], .own⟩),
  (266, ⟨[71, 288], [.ro, .ro], .own⟩)]
def lookS (f : Nat) : List (Nat × Sig) → Sig
  | [] => ⟨[], [], .own⟩
  | (g, s) :: r => bif Nat.beq f g then s else lookS f r
def sg (f : Nat) : Sig := lookS f sgs
def cap (f : Nat) : List Nat := []
def T : Tbl := { U := U, ty := ty, size := size, bytes := bytes, zero := zero, dget := dget, dset := dset, dflt := dflt, ceq := ceq, keq := fun _ _ _ => false, sg := sg, cap := cap }
theorem t_len : ∀ t x, (dget t x).length = size t := by
  intro t x
  unfold dget size
  split
  · rfl
  · rfl
  · rfl
  · rfl
  · rfl
  · rfl
  · rfl
  · rfl
  · rfl
  · rfl
  · rfl
  · rename_i h
    split <;> first | rfl | exact absurd rfl (h _) | simp_all
theorem t_get : ∀ t ds x, dset t ds = some x → dget t x = ds := by
  intro t ds x h
  by_cases e3 : t = 3
  · subst e3; exact get3 (show dset3 ds = some x from h)
  by_cases e4 : t = 4
  · subst e4; exact get4 (show dset4 ds = some x from h)
  by_cases e24 : t = 24
  · subst e24; exact get24 (show dset24 ds = some x from h)
  by_cases e67 : t = 67
  · subst e67; exact get67 (show dset67 ds = some x from h)
  by_cases e68 : t = 68
  · subst e68; exact get68 (show dset68 ds = some x from h)
  by_cases e71 : t = 71
  · subst e71; exact get71 (show dset71 ds = some x from h)
  by_cases e75 : t = 75
  · subst e75; exact get75 (show dset75 ds = some x from h)
  by_cases e185 : t = 185
  · subst e185; exact get185 (show dset185 ds = some x from h)
  by_cases e187 : t = 187
  · subst e187; exact get187 (show dset187 ds = some x from h)
  by_cases e189 : t = 189
  · subst e189; exact get189 (show dset189 ds = some x from h)
  by_cases e191 : t = 191
  · subst e191; exact get191 (show dset191 ds = some x from h)
  unfold dset at h
  rw [dif_neg e3, dif_neg e4, dif_neg e24, dif_neg e67, dif_neg e68, dif_neg e71, dif_neg e75, dif_neg e185, dif_neg e187, dif_neg e189, dif_neg e191] at h
  cases h
theorem t_pat : ∀ t x, (dget t x).map D.isArr = (dget t (dflt t)).map D.isArr := by
  intro t x
  unfold dget
  split
  · rfl
  · rfl
  · rfl
  · rfl
  · rfl
  · rfl
  · rfl
  · rfl
  · rfl
  · rfl
  · rfl
  · rename_i h
    split <;> first | rfl | exact absurd rfl (h _) | simp_all
theorem t_slice : ∀ t e, ty t = .slice e → Try.prog.underlying t = some (.slice e) := by
  intro t e h
  unfold ty at h
  cases hb : Nat.ble 100000 t <;> rw [hb] at h
  · simp only [cond_false] at h
    unfold ty0 at h
    split at h
    · cases h
    · cases h
    · cases h; exact Try.underlying24
    · cases h; exact Try.underlying67
    · cases h; exact Try.underlying68
    · cases h; exact Try.underlying71
    · cases h; exact Try.underlying75
    · cases h
    · cases h
    · cases h
    · cases h
    · cases h
  · cases h
theorem t_arr : ∀ t n e, ty t = .arr n e → Try.prog.underlying t = some (.array n e) := by
  intro t n e h
  unfold ty at h
  cases hb : Nat.ble 100000 t <;> rw [hb] at h
  · simp only [cond_false] at h
    unfold ty0 at h
    split at h
    · cases h
    · cases h
    · cases h
    · cases h
    · cases h
    · cases h
    · cases h
    · cases h
    · cases h
    · cases h
    · cases h
    · cases h
  · cases h
theorem t_str : ∀ t, ty t = .str → Try.prog.underlying t = some .string := by
  intro t h
  unfold ty at h
  cases hb : Nat.ble 100000 t <;> rw [hb] at h
  · simp only [cond_false] at h
    unfold ty0 at h
    split at h
    · cases h
    · cases h
    · cases h
    · cases h
    · cases h
    · cases h
    · cases h
    · cases h
    · cases h
    · cases h
    · cases h
    · cases h
  · cases h
theorem t_bool : ∀ t, ty t = .bool → Try.prog.underlying t = some .bool := by
  intro t h
  unfold ty at h
  cases hb : Nat.ble 100000 t <;> rw [hb] at h
  · simp only [cond_false] at h
    unfold ty0 at h
    split at h
    · cases h
    · exact Try.underlying4
    · cases h
    · cases h
    · cases h
    · cases h
    · cases h
    · cases h
    · cases h
    · cases h
    · cases h
    · cases h
  · cases h
theorem t_int : ∀ t k, ty t = .int k → Try.prog.underlying t = some (.int k) := by
  intro t k h
  unfold ty at h
  cases hb : Nat.ble 100000 t <;> rw [hb] at h
  · simp only [cond_false] at h
    unfold ty0 at h
    split at h
    · cases h; exact Try.underlying3
    · cases h
    · cases h
    · cases h
    · cases h
    · cases h
    · cases h
    · cases h
    · cases h
    · cases h
    · cases h
    · cases h
  · cases h
theorem t_intC : ∀ t k, ty t = .int k → ∀ x, ∃ n, dget t x = [.int k n] := by
  intro t k h
  unfold ty at h
  cases hb : Nat.ble 100000 t <;> rw [hb] at h
  · simp only [cond_false] at h
    unfold ty0 at h
    split at h
    · cases h; exact fun x => ⟨x, rfl⟩
    · cases h
    · cases h
    · cases h
    · cases h
    · cases h
    · cases h
    · cases h
    · cases h
    · cases h
    · cases h
    · cases h
  · cases h
theorem t_ptr : ∀ t e, ty t = .ptr e → Try.prog.underlying t = some (.pointer e) := by
  intro t e h
  unfold ty at h
  cases hb : Nat.ble 100000 t <;> rw [hb] at h
  · simp only [cond_false] at h
    unfold ty0 at h
    split at h
    · cases h
    · cases h
    · cases h
    · cases h
    · cases h
    · cases h
    · cases h
    · cases h
    · cases h
    · cases h
    · cases h
    · cases h
  · cases h
theorem t_map : ∀ t k e, ty t = .map k e → Try.prog.underlying t = some (.map k e) := by
  intro t k e h
  unfold ty at h
  cases hb : Nat.ble 100000 t <;> rw [hb] at h
  · simp only [cond_false] at h
    unfold ty0 at h
    split at h
    · cases h
    · cases h
    · cases h
    · cases h
    · cases h
    · cases h
    · cases h
    · cases h
    · cases h
    · cases h
    · cases h
    · cases h
  · cases h
theorem t_struct : ∀ t fs, ty t = .struct fs → ∃ fields : Array Field, Try.prog.underlying t = some (.struct fields) ∧ fs = fields.toList.map (fun f => (f.offset, f.type)) ∧ (∀ f ∈ fields.toList, 0 < size f.type ∧ f.name ≠ "_") := by
  intro t fs h
  unfold ty at h
  cases hb : Nat.ble 100000 t <;> rw [hb] at h
  · simp only [cond_false] at h
    unfold ty0 at h
    split at h
    · cases h
    · cases h
    · cases h
    · cases h
    · cases h
    · cases h
    · cases h
    · cases h; exact ⟨_, Try.underlying185, rfl, fchk_ok (by rfl)⟩
    · cases h; exact ⟨_, Try.underlying187, rfl, fchk_ok (by rfl)⟩
    · cases h; exact ⟨_, Try.underlying189, rfl, fchk_ok (by rfl)⟩
    · cases h; exact ⟨_, Try.underlying191, rfl, fchk_ok (by rfl)⟩
    · cases h
  · cases h
theorem t_info : ∀ t, 0 < size t → ∃ i, Try.prog.info? t = some i ∧ i.size = size t ∧ i.bytes = bytes t ∧ ∃ z, i.zero = some z ∧ z.cells.toList = zero t ∧ (Go.Sm.isAgg T t = true → ∃ cs, z = .agg cs) := by
  intro t h
  unfold size at h
  split at h
  · exact ⟨Try.t3, by kernel_rfl, rfl, rfl, _, rfl, rfl, fun h => nomatch (show false = true from h)⟩
  · exact ⟨Try.t4, by kernel_rfl, rfl, rfl, _, rfl, rfl, fun h => nomatch (show false = true from h)⟩
  · exact ⟨Try.t24, by kernel_rfl, rfl, rfl, _, rfl, rfl, fun h => nomatch (show false = true from h)⟩
  · exact ⟨Try.t67, by kernel_rfl, rfl, rfl, _, rfl, rfl, fun h => nomatch (show false = true from h)⟩
  · exact ⟨Try.t68, by kernel_rfl, rfl, rfl, _, rfl, rfl, fun h => nomatch (show false = true from h)⟩
  · exact ⟨Try.t71, by kernel_rfl, rfl, rfl, _, rfl, rfl, fun h => nomatch (show false = true from h)⟩
  · exact ⟨Try.t75, by kernel_rfl, rfl, rfl, _, rfl, rfl, fun h => nomatch (show false = true from h)⟩
  · exact ⟨Try.t185, by kernel_rfl, rfl, rfl, _, rfl, rfl, fun h => ⟨_, rfl⟩⟩
  · exact ⟨Try.t187, by kernel_rfl, rfl, rfl, _, rfl, rfl, fun h => ⟨_, rfl⟩⟩
  · exact ⟨Try.t189, by kernel_rfl, rfl, rfl, _, rfl, rfl, fun h => ⟨_, rfl⟩⟩
  · exact ⟨Try.t191, by kernel_rfl, rfl, rfl, _, rfl, rfl, fun h => ⟨_, rfl⟩⟩
  · exact absurd h (Nat.lt_irrefl _)
theorem t_agg : ∀ t, 0 < size t → ((match Try.prog.underlying t with | some (.struct _) => true | some (.array _ _) => true | _ => false) = Go.Sm.isAgg T t) := by
  intro t h
  unfold size at h
  split at h
  · rw [Try.underlying3]; rfl
  · rw [Try.underlying4]; rfl
  · rw [Try.underlying24]; rfl
  · rw [Try.underlying67]; rfl
  · rw [Try.underlying68]; rfl
  · rw [Try.underlying71]; rfl
  · rw [Try.underlying75]; rfl
  · rw [Try.underlying185]; rfl
  · rw [Try.underlying187]; rfl
  · rw [Try.underlying189]; rfl
  · rw [Try.underlying191]; rfl
  · exact absurd h (Nat.lt_irrefl _)
theorem t_und : ∀ t, 0 < size t → ∃ d, Try.prog.underlying t = some d := by
  intro t h
  unfold size at h
  split at h
  · exact ⟨_, Try.underlying3⟩
  · exact ⟨_, Try.underlying4⟩
  · exact ⟨_, Try.underlying24⟩
  · exact ⟨_, Try.underlying67⟩
  · exact ⟨_, Try.underlying68⟩
  · exact ⟨_, Try.underlying71⟩
  · exact ⟨_, Try.underlying75⟩
  · exact ⟨_, Try.underlying185⟩
  · exact ⟨_, Try.underlying187⟩
  · exact ⟨_, Try.underlying189⟩
  · exact ⟨_, Try.underlying191⟩
  · exact absurd h (Nat.lt_irrefl _)
theorem t_zero : ∀ t, 0 < size t → (zero t).length = size t ∧ ∀ (j : Nat) (d : D U) (v : Value), (dget t (dflt t))[j]? = some d → (zero t)[j]? = some v → plainD (T := T) d v ∨ ∃ u, d = .arr u [] ∧ v = .slice none 0 0 := by
  intro t h
  have hh : zchk (U := U) (fun t l => isNilL t l) (dget t (dflt t)) (zero t) = true := by
    unfold size at h
    split at h
    · rfl
    · rfl
    · rfl
    · rfl
    · rfl
    · rfl
    · rfl
    · rfl
    · rfl
    · rfl
    · rfl
    · exact absurd h (Nat.lt_irrefl _)
  obtain ⟨h1, h2⟩ := zchk_ok (T := T) hh
  exact ⟨h1.trans (t_len _ _), h2⟩
theorem t_eqs : ∀ t, T.ceq t = true → EqOk Try.prog T t := by
  intro t h
  have h : ceq t = true := h
  unfold ceq at h
  cases h
theorem ok : TblOk Try.prog T := { len := t_len, get := t_get, pat := t_pat, slice := t_slice, arr := t_arr, str := t_str, bool := t_bool, int := t_int, intC := t_intC, struct := t_struct, ptr := t_ptr, map := t_map, info := t_info, agg := t_agg, zero := t_zero, und := t_und, eqs := t_eqs }
end Go.Sm.A7
