import Derived.Test.YtojjoinjabogbaaEngD
import Derived.Test.YtojjoinjabogbaaA14Fn
import Derived.Test.YtojjoinjabogbaaProg
/- The program's types as the evaluator sees them. -/
set_option linter.unusedSimpArgs false
set_option linter.deprecated false
set_option linter.unusedSectionVars false
set_option linter.unusedVariables false
set_option maxRecDepth 100000
open Go Go.Proofs
noncomputable section
namespace Go.Sm.A14
def UI : Nat → (α : Type) × α
  | 3 => ⟨Int, (0 : Int)⟩
  | 4 => ⟨Bool, false⟩
  | 24 => ⟨List Int, []⟩
  | 55 => ⟨List Bool, []⟩
  | 134 => ⟨List SRadio, []⟩
  | 136 => ⟨List SRadio, []⟩
  | 243 => ⟨SRadio, dSRadio⟩
  | 250 => ⟨SRadio, dSRadio⟩
  | _ => ⟨Unit, ()⟩
abbrev U (t : Nat) : Type := (UI t).1
def dflt (t : Nat) : U t := (UI t).2
def dget : (t : Nat) → U t → List (D U)
  | 3, x => (fun (x : Int) => ([.int .i64 x] : List (D U))) x
  | 4, x => (fun (x : Bool) => ([.bool x] : List (D U))) x
  | 24, x => (fun (x : List Int) => ([.arr 3 x] : List (D U))) x
  | 55, x => (fun (x : List Bool) => ([.arr 4 x] : List (D U))) x
  | 134, x => (fun (x : List SRadio) => ([.arr 243 x] : List (D U))) x
  | 136, x => (fun (x : List SRadio) => ([.arr 250 x] : List (D U))) x
  | 243, x => (fun (x : SRadio) => ([.int .i64 x.Id, .int .i64 x.Slot, .arr 3 x.Hears] : List (D U))) x
  | 250, x => (fun (x : SRadio) => ([.int .i64 x.Id, .int .i64 x.Slot, .arr 3 x.Hears] : List (D U))) x
  | _, _ => []
def dset3 (ds : List (D U)) : Option Int := match ds with
  | [c0] => (intU .i64 c0).bind fun a0 => some (a0)
  | _ => none
theorem get3 {ds : List (D U)} {x : U 3} (h : dset3 ds = some x) : dget 3 x = ds := by
  unfold dset3 at h
  split at h
  · obtain ⟨a0, h0, h⟩ := Option.bind_eq_some_iff.1 h
    cases h
    rw [intU_eq h0]
    rfl
  · cases h
def dset4 (ds : List (D U)) : Option Bool := match ds with
  | [c0] => (boolU c0).bind fun a0 => some (a0)
  | _ => none
theorem get4 {ds : List (D U)} {x : U 4} (h : dset4 ds = some x) : dget 4 x = ds := by
  unfold dset4 at h
  split at h
  · obtain ⟨a0, h0, h⟩ := Option.bind_eq_some_iff.1 h
    cases h
    rw [boolU_eq h0]
    rfl
  · cases h
def dset24 (ds : List (D U)) : Option (List Int) := match ds with
  | [c0] => (arrU 3 c0).bind fun a0 => some (a0)
  | _ => none
theorem get24 {ds : List (D U)} {x : U 24} (h : dset24 ds = some x) : dget 24 x = ds := by
  unfold dset24 at h
  split at h
  · obtain ⟨a0, h0, h⟩ := Option.bind_eq_some_iff.1 h
    cases h
    rw [arrU_eq h0]
    rfl
  · cases h
def dset55 (ds : List (D U)) : Option (List Bool) := match ds with
  | [c0] => (arrU 4 c0).bind fun a0 => some (a0)
  | _ => none
theorem get55 {ds : List (D U)} {x : U 55} (h : dset55 ds = some x) : dget 55 x = ds := by
  unfold dset55 at h
  split at h
  · obtain ⟨a0, h0, h⟩ := Option.bind_eq_some_iff.1 h
    cases h
    rw [arrU_eq h0]
    rfl
  · cases h
def dset134 (ds : List (D U)) : Option (List SRadio) := match ds with
  | [c0] => (arrU 243 c0).bind fun a0 => some (a0)
  | _ => none
theorem get134 {ds : List (D U)} {x : U 134} (h : dset134 ds = some x) : dget 134 x = ds := by
  unfold dset134 at h
  split at h
  · obtain ⟨a0, h0, h⟩ := Option.bind_eq_some_iff.1 h
    cases h
    rw [arrU_eq h0]
    rfl
  · cases h
def dset136 (ds : List (D U)) : Option (List SRadio) := match ds with
  | [c0] => (arrU 250 c0).bind fun a0 => some (a0)
  | _ => none
theorem get136 {ds : List (D U)} {x : U 136} (h : dset136 ds = some x) : dget 136 x = ds := by
  unfold dset136 at h
  split at h
  · obtain ⟨a0, h0, h⟩ := Option.bind_eq_some_iff.1 h
    cases h
    rw [arrU_eq h0]
    rfl
  · cases h
def dset243 (ds : List (D U)) : Option SRadio := match ds with
  | [c0, c1, c2] => (intU .i64 c0).bind fun a0 => (intU .i64 c1).bind fun a1 => (arrU 3 c2).bind fun a2 => some ((⟨a0, a1, a2⟩ : SRadio))
  | _ => none
theorem get243 {ds : List (D U)} {x : U 243} (h : dset243 ds = some x) : dget 243 x = ds := by
  unfold dset243 at h
  split at h
  · obtain ⟨a0, h0, h⟩ := Option.bind_eq_some_iff.1 h
    obtain ⟨a1, h1, h⟩ := Option.bind_eq_some_iff.1 h
    obtain ⟨a2, h2, h⟩ := Option.bind_eq_some_iff.1 h
    cases h
    rw [intU_eq h0, intU_eq h1, arrU_eq h2]
    rfl
  · cases h
def dset250 (ds : List (D U)) : Option SRadio := match ds with
  | [c0, c1, c2] => (intU .i64 c0).bind fun a0 => (intU .i64 c1).bind fun a1 => (arrU 3 c2).bind fun a2 => some ((⟨a0, a1, a2⟩ : SRadio))
  | _ => none
theorem get250 {ds : List (D U)} {x : U 250} (h : dset250 ds = some x) : dget 250 x = ds := by
  unfold dset250 at h
  split at h
  · obtain ⟨a0, h0, h⟩ := Option.bind_eq_some_iff.1 h
    obtain ⟨a1, h1, h⟩ := Option.bind_eq_some_iff.1 h
    obtain ⟨a2, h2, h⟩ := Option.bind_eq_some_iff.1 h
    cases h
    rw [intU_eq h0, intU_eq h1, arrU_eq h2]
    rfl
  · cases h
def castU {t t2 : Nat} (h : t2 = t) (x : Option (U t)) : Option (U t2) := h ▸ x
def dset (t : Nat) (ds : List (D U)) : Option (U t) :=
  if h : t = 3 then castU h (dset3 ds) else
  if h : t = 4 then castU h (dset4 ds) else
  if h : t = 24 then castU h (dset24 ds) else
  if h : t = 55 then castU h (dset55 ds) else
  if h : t = 134 then castU h (dset134 ds) else
  if h : t = 136 then castU h (dset136 ds) else
  if h : t = 243 then castU h (dset243 ds) else
  if h : t = 250 then castU h (dset250 ds) else
  none
def ty0 : Nat → Ty
  | 3 => .int .i64
  | 4 => .bool
  | 24 => .slice 3
  | 55 => .slice 4
  | 134 => .slice 243
  | 136 => .slice 250
  | 243 => .struct [(0, 3), (1, 3), (2, 24)]
  | 250 => .struct [(0, 3), (1, 3), (2, 24)]
  | _ => .other
def ty (t : Nat) : Ty := bif Nat.ble 100000 t then .ref (t - 100000) else ty0 t
def size : Nat → Nat
  | 3 => 1
  | 4 => 1
  | 24 => 1
  | 55 => 1
  | 134 => 1
  | 136 => 1
  | 243 => 3
  | 250 => 3
  | _ => 0
def bytes : Nat → Nat
  | 3 => 8
  | 4 => 1
  | 24 => 24
  | 55 => 24
  | 134 => 24
  | 136 => 24
  | 243 => 40
  | 250 => 40
  | _ => 0
def zero : Nat → List Value
  | 3 => [.int .i64 0]
  | 4 => [.bool false]
  | 24 => [.slice none 0 0]
  | 55 => [.slice none 0 0]
  | 134 => [.slice none 0 0]
  | 136 => [.slice none 0 0]
  | 243 => [.int .i64 0, .int .i64 0, .slice none 0 0]
  | 250 => [.int .i64 0, .int .i64 0, .slice none 0 0]
  | _ => []
def ceq (t : Nat) : Bool := false
def sgs : List (Nat × Sig) := [(14, ⟨[134, 24], [.ro, .ro], .own⟩),
  (19, ⟨[24, 24], [.ro, .ro], .own⟩),
  (22, ⟨[24, 3], [.rws, .ro], .own⟩),
  (23, ⟨[24, 3], [.ro, .ro], .own⟩),
  (27, ⟨[24], [.ro], .own⟩),
  (93, ⟨[134, 3], [.ro, .ro], .own⟩),
  (94, ⟨[136, 24], [.ro, .ro], .own⟩),
  (95, ⟨[134], [.ro], .own⟩),
  (96, ⟨[136, 24], [.ro, .ro], .own⟩),
  (97, ⟨[136, 136], [.ro, .ro], .own⟩),
  (98, ⟨[136, 3], [.rws, .ro], .own⟩),
  (99, ⟨[136, 3], [.ro, .ro], .own⟩),
  (101, ⟨[3, 3, 3], [.ro, .ro, .ro], .own⟩),
  (106, ⟨[24], [.ro], .own⟩),
  (113, ⟨[3, 3, 3], [.ro, .ro, .ro], .own⟩),
  (114, ⟨[24, 3], [.ro, .ro], .own⟩),
  (193, ⟨[243, 3], [.ro, .ro], .own⟩),
  (194, ⟨[136], [.ro], .own⟩),
  (195, ⟨[24, 3, 3], [.ro, .ro, .ro], .own⟩),
  (196, ⟨[136], [.ro], .own⟩),
  (197, ⟨[136], [.ro], .own⟩),
  (198, ⟨[136, 3, 3], [.ro, .ro, .ro], .own⟩),
  (199, ⟨[243], [.ro], .own⟩),
  (200, ⟨[136], [.ro], .own⟩),
  (201, ⟨[24, 157], [.ro, .ro], .own⟩),
  (202, ⟨[3], [.ro], .own⟩),
  (203, ⟨[136], [.ro], .shal⟩),
  (204, ⟨[136], [.ro], .own⟩),
  (205, ⟨[136, 3, 3], [.ro, .ro, .ro], .own⟩),
  (206, ⟨[250, 250], [.ro, .ro], .own⟩),
  (214, ⟨[24, 3], [.ro, .ro], .own⟩),
  (242, ⟨[24, 3], [.ro, .ro], .own⟩),
  (243, ⟨[24, 3], [.ro, .ro], .own⟩),
  (244, ⟨[3], [.ro], .own⟩),
  (245, ⟨[3], [.ro], .own⟩),
  (246, ⟨[24, 157], [.ro, .ro], .own⟩),
  (247, ⟨[3, 100136, 100250], [.ro, .ro, .ro], .own⟩),
  (248, ⟨[3, 100136, 100003], [.ro, .ro, .ro], .own⟩)]
def lookS (f : Nat) : List (Nat × Sig) → Sig
  | [] => ⟨[], [], .own⟩
  | (g, s) :: r => bif Nat.beq f g then s else lookS f r
def sg (f : Nat) : Sig := lookS f sgs
def cap (f : Nat) : List Nat := bif Nat.beq f 247 then [100136, 100250] else bif Nat.beq f 248 then [100136, 100003] else []
def T : Tbl := { U := U, ty := ty, size := size, bytes := bytes, zero := zero, dget := dget, dset := dset, dflt := dflt, ceq := ceq, keq := fun _ _ _ => false, sg := sg, cap := cap }
theorem t_len : ∀ t x, (dget t x).length = size t := by
  intro t x
  unfold dget size
  split
  · rfl
  · rfl
  · rfl
  · rfl
  · rfl
  · rfl
  · rfl
  · rfl
  · rename_i h
    split <;> first | rfl | exact absurd rfl (h _) | simp_all
theorem t_get : ∀ t ds x, dset t ds = some x → dget t x = ds := by
  intro t ds x h
  by_cases e3 : t = 3
  · subst e3; exact get3 (show dset3 ds = some x from h)
  by_cases e4 : t = 4
  · subst e4; exact get4 (show dset4 ds = some x from h)
  by_cases e24 : t = 24
  · subst e24; exact get24 (show dset24 ds = some x from h)
  by_cases e55 : t = 55
  · subst e55; exact get55 (show dset55 ds = some x from h)
  by_cases e134 : t = 134
  · subst e134; exact get134 (show dset134 ds = some x from h)
  by_cases e136 : t = 136
  · subst e136; exact get136 (show dset136 ds = some x from h)
  by_cases e243 : t = 243
  · subst e243; exact get243 (show dset243 ds = some x from h)
  by_cases e250 : t = 250
  · subst e250; exact get250 (show dset250 ds = some x from h)
  unfold dset at h
  rw [dif_neg e3, dif_neg e4, dif_neg e24, dif_neg e55, dif_neg e134, dif_neg e136, dif_neg e243, dif_neg e250] at h
  cases h
theorem t_pat : ∀ t x, (dget t x).map D.isArr = (dget t (dflt t)).map D.isArr := by
  intro t x
  unfold dget
  split
  · rfl
  · rfl
  · rfl
  · rfl
  · rfl
  · rfl
  · rfl
  · rfl
  · rename_i h
    split <;> first | rfl | exact absurd rfl (h _) | simp_all
theorem t_slice : ∀ t e, ty t = .slice e → Try.prog.underlying t = some (.slice e) := by
  intro t e h
  unfold ty at h
  cases hb : Nat.ble 100000 t <;> rw [hb] at h
  · simp only [cond_false] at h
    unfold ty0 at h
    split at h
    · cases h
    · cases h
    · cases h; exact Try.underlying24
    · cases h; exact Try.underlying55
    · cases h; exact Try.underlying134
    · cases h; exact Try.underlying136
    · cases h
    · cases h
    · cases h
  · cases h
theorem t_arr : ∀ t n e, ty t = .arr n e → Try.prog.underlying t = some (.array n e) := by
  intro t n e h
  unfold ty at h
  cases hb : Nat.ble 100000 t <;> rw [hb] at h
  · simp only [cond_false] at h
    unfold ty0 at h
    split at h
    · cases h
    · cases h
    · cases h
    · cases h
    · cases h
    · cases h
    · cases h
    · cases h
    · cases h
  · cases h
theorem t_str : ∀ t, ty t = .str → Try.prog.underlying t = some .string := by
  intro t h
  unfold ty at h
  cases hb : Nat.ble 100000 t <;> rw [hb] at h
  · simp only [cond_false] at h
    unfold ty0 at h
    split at h
    · cases h
    · cases h
    · cases h
    · cases h
    · cases h
    · cases h
    · cases h
    · cases h
    · cases h
  · cases h
theorem t_bool : ∀ t, ty t = .bool → Try.prog.underlying t = some .bool := by
  intro t h
  unfold ty at h
  cases hb : Nat.ble 100000 t <;> rw [hb] at h
  · simp only [cond_false] at h
    unfold ty0 at h
    split at h
    · cases h
    · exact Try.underlying4
    · cases h
    · cases h
    · cases h
    · cases h
    · cases h
    · cases h
    · cases h
  · cases h
theorem t_int : ∀ t k, ty t = .int k → Try.prog.underlying t = some (.int k) := by
  intro t k h
  unfold ty at h
  cases hb : Nat.ble 100000 t <;> rw [hb] at h
  · simp only [cond_false] at h
    unfold ty0 at h
    split at h
    · cases h; exact Try.underlying3
    · cases h
    · cases h
    · cases h
    · cases h
    · cases h
    · cases h
    · cases h
    · cases h
  · cases h
theorem t_intC : ∀ t k, ty t = .int k → ∀ x, ∃ n, dget t x = [.int k n] := by
  intro t k h
  unfold ty at h
  cases hb : Nat.ble 100000 t <;> rw [hb] at h
  · simp only [cond_false] at h
    unfold ty0 at h
    split at h
    · cases h; exact fun x => ⟨x, rfl⟩
    · cases h
    · cases h
    · cases h
    · cases h
    · cases h
    · cases h
    · cases h
    · cases h
  · cases h
theorem t_ptr : ∀ t e, ty t = .ptr e → Try.prog.underlying t = some (.pointer e) := by
  intro t e h
  unfold ty at h
  cases hb : Nat.ble 100000 t <;> rw [hb] at h
  · simp only [cond_false] at h
    unfold ty0 at h
    split at h
    · cases h
    · cases h
    · cases h
    · cases h
    · cases h
    · cases h
    · cases h
    · cases h
    · cases h
  · cases h
theorem t_map : ∀ t k e, ty t = .map k e → Try.prog.underlying t = some (.map k e) := by
  intro t k e h
  unfold ty at h
  cases hb : Nat.ble 100000 t <;> rw [hb] at h
  · simp only [cond_false] at h
    unfold ty0 at h
    split at h
    · cases h
    · cases h
    · cases h
    · cases h
    · cases h
    · cases h
    · cases h
    · cases h
    · cases h
  · cases h
theorem t_struct : ∀ t fs, ty t = .struct fs → ∃ fields : Array Field, Try.prog.underlying t = some (.struct fields) ∧ fs = fields.toList.map (fun f => (f.offset, f.type)) ∧ (∀ f ∈ fields.toList, 0 < size f.type ∧ f.name ≠ "_") := by
  intro t fs h
  unfold ty at h
  cases hb : Nat.ble 100000 t <;> rw [hb] at h
  · simp only [cond_false] at h
    unfold ty0 at h
    split at h
    · cases h
    · cases h
    · cases h
    · cases h
    · cases h
    · cases h
    · cases h; exact ⟨_, Try.underlying243, rfl, fchk_ok (by rfl)⟩
    · cases h; exact ⟨_, Try.underlying250, rfl, fchk_ok (by rfl)⟩
    · cases h
  · cases h
theorem t_info : ∀ t, 0 < size t → ∃ i, Try.prog.info? t = some i ∧ i.size = size t ∧ i.bytes = bytes t ∧ ∃ z, i.zero = some z ∧ z.cells.toList = zero t ∧ (Go.Sm.isAgg T t = true → ∃ cs, z = .agg cs) := by
  intro t h
  unfold size at h
  split at h
  · exact ⟨Try.t3, by kernel_rfl, rfl, rfl, _, rfl, rfl, fun h => nomatch (show false = true from h)⟩
  · exact ⟨Try.t4, by kernel_rfl, rfl, rfl, _, rfl, rfl, fun h => nomatch (show false = true from h)⟩
  · exact ⟨Try.t24, by kernel_rfl, rfl, rfl, _, rfl, rfl, fun h => nomatch (show false = true from h)⟩
  · exact ⟨Try.t55, by kernel_rfl, rfl, rfl, _, rfl, rfl, fun h => nomatch (show false = true from h)⟩
  · exact ⟨Try.t134, by kernel_rfl, rfl, rfl, _, rfl, rfl, fun h => nomatch (show false = true from h)⟩
  · exact ⟨Try.t136, by kernel_rfl, rfl, rfl, _, rfl, rfl, fun h => nomatch (show false = true from h)⟩
  · exact ⟨Try.t243, by kernel_rfl, rfl, rfl, _, rfl, rfl, fun h => ⟨_, rfl⟩⟩
  · exact ⟨Try.t250, by kernel_rfl, rfl, rfl, _, rfl, rfl, fun h => ⟨_, rfl⟩⟩
  · exact absurd h (Nat.lt_irrefl _)
theorem t_agg : ∀ t, 0 < size t → ((match Try.prog.underlying t with | some (.struct _) => true | some (.array _ _) => true | _ => false) = Go.Sm.isAgg T t) := by
  intro t h
  unfold size at h
  split at h
  · rw [Try.underlying3]; rfl
  · rw [Try.underlying4]; rfl
  · rw [Try.underlying24]; rfl
  · rw [Try.underlying55]; rfl
  · rw [Try.underlying134]; rfl
  · rw [Try.underlying136]; rfl
  · rw [Try.underlying243]; rfl
  · rw [Try.underlying250]; rfl
  · exact absurd h (Nat.lt_irrefl _)
theorem t_und : ∀ t, 0 < size t → ∃ d, Try.prog.underlying t = some d := by
  intro t h
  unfold size at h
  split at h
  · exact ⟨_, Try.underlying3⟩
  · exact ⟨_, Try.underlying4⟩
  · exact ⟨_, Try.underlying24⟩
  · exact ⟨_, Try.underlying55⟩
  · exact ⟨_, Try.underlying134⟩
  · exact ⟨_, Try.underlying136⟩
  · exact ⟨_, Try.underlying243⟩
  · exact ⟨_, Try.underlying250⟩
  · exact absurd h (Nat.lt_irrefl _)
theorem t_zv : ∀ t, 0 < size t → Go.Sm.isAgg T t = false → ∃ i z, Try.prog.info? t = some i ∧ i.zero = some z ∧ ∀ cs, z ≠ .agg cs := by
  intro t h
  unfold size at h
  split at h
  · exact fun _ => ⟨Try.t3, .int .i64 0, by kernel_rfl, rfl, fun cs h => nomatch h⟩
  · exact fun _ => ⟨Try.t4, .bool false, by kernel_rfl, rfl, fun cs h => nomatch h⟩
  · exact fun _ => ⟨Try.t24, .slice none 0 0, by kernel_rfl, rfl, fun cs h => nomatch h⟩
  · exact fun _ => ⟨Try.t55, .slice none 0 0, by kernel_rfl, rfl, fun cs h => nomatch h⟩
  · exact fun _ => ⟨Try.t134, .slice none 0 0, by kernel_rfl, rfl, fun cs h => nomatch h⟩
  · exact fun _ => ⟨Try.t136, .slice none 0 0, by kernel_rfl, rfl, fun cs h => nomatch h⟩
  · exact fun h => nomatch (show true = false from h)
  · exact fun h => nomatch (show true = false from h)
  · exact absurd h (Nat.lt_irrefl _)
theorem t_zero : ∀ t, 0 < size t → (zero t).length = size t ∧ ∀ (j : Nat) (d : D U) (v : Value), (dget t (dflt t))[j]? = some d → (zero t)[j]? = some v → plainD (T := T) d v ∨ ∃ u, d = .arr u [] ∧ v = .slice none 0 0 := by
  intro t h
  have hh : zchk (U := U) (fun t l => isNilL t l) (dget t (dflt t)) (zero t) = true := by
    unfold size at h
    split at h
    · rfl
    · rfl
    · rfl
    · rfl
    · rfl
    · rfl
    · rfl
    · rfl
    · exact absurd h (Nat.lt_irrefl _)
  obtain ⟨h1, h2⟩ := zchk_ok (T := T) hh
  exact ⟨h1.trans (t_len _ _), h2⟩
theorem t_eqs : ∀ t, T.ceq t = true → EqOk Try.prog T t := by
  intro t h
  have h : ceq t = true := h
  unfold ceq at h
  cases h
theorem ok : TblOk Try.prog T := { len := t_len, get := t_get, pat := t_pat, slice := t_slice, arr := t_arr, str := t_str, bool := t_bool, int := t_int, intC := t_intC, struct := t_struct, ptr := t_ptr, map := t_map, info := t_info, agg := t_agg, zero := t_zero, und := t_und, zv := t_zv, eqs := t_eqs }
end Go.Sm.A14
