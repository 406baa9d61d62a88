import Derived.Test.YtikjficedlkjjaaEngD
import Derived.Test.YtikjficedlkjjaaC11Fn
import Derived.Test.YtikjficedlkjjaaProg
/- The program's types as the evaluator sees them. -/
set_option linter.unusedSimpArgs false
set_option linter.deprecated false
set_option linter.unusedSectionVars false
set_option linter.unusedVariables false
set_option maxRecDepth 100000
open Go Go.Proofs
noncomputable section
namespace Go.Sm.C11
def UI : Nat → (α : Type) × α
  | 3 => ⟨Int, (0 : Int)⟩
  | 4 => ⟨Bool, false⟩
  | 41 => ⟨List Int, []⟩
  | 71 => ⟨SFloor, dSFloor⟩
  | 72 => ⟨List SCart, []⟩
  | 81 => ⟨SCart, dSCart⟩
  | 86 => ⟨SFloor, dSFloor⟩
  | 87 => ⟨List SCart, []⟩
  | 157 => ⟨SCart, dSCart⟩
  | 188 => ⟨SArr2_Int, dSArr2_Int⟩
  | 189 => ⟨List SArr2_Int, []⟩
  | _ => ⟨Unit, ()⟩
abbrev U (t : Nat) : Type := (UI t).1
def dflt (t : Nat) : U t := (UI t).2
def dget : (t : Nat) → U t → List (D U)
  | 3, x => (fun (x : Int) => ([.int .i64 x] : List (D U))) x
  | 4, x => (fun (x : Bool) => ([.bool x] : List (D U))) x
  | 41, x => (fun (x : List Int) => ([.arr 3 x] : List (D U))) x
  | 71, x => (fun (x : SFloor) => ([.int .i64 x.Wide, .int .i64 x.High, .arr 3 x.Ways] : List (D U))) x
  | 72, x => (fun (x : List SCart) => ([.arr 81 x] : List (D U))) x
  | 81, x => (fun (x : SCart) => ([.int .i64 x.At, .int .i64 x.Goal] : List (D U))) x
  | 86, x => (fun (x : SFloor) => ([.int .i64 x.Wide, .int .i64 x.High, .arr 3 x.Ways] : List (D U))) x
  | 87, x => (fun (x : List SCart) => ([.arr 157 x] : List (D U))) x
  | 157, x => (fun (x : SCart) => ([.int .i64 x.At, .int .i64 x.Goal] : List (D U))) x
  | 188, x => (fun (x : SArr2_Int) => ([.int .i64 x.x0, .int .i64 x.x1] : List (D U))) x
  | 189, x => (fun (x : List SArr2_Int) => ([.arr 188 x] : List (D U))) x
  | _, _ => []
def dset3 (ds : List (D U)) : Option Int := match ds with
  | [c0] => (intU .i64 c0).bind fun a0 => some (a0)
  | _ => none
theorem get3 {ds : List (D U)} {x : U 3} (h : dset3 ds = some x) : dget 3 x = ds := by
  unfold dset3 at h
  split at h
  · obtain ⟨a0, h0, h⟩ := Option.bind_eq_some_iff.1 h
    cases h
    rw [intU_eq h0]
    rfl
  · cases h
def dset4 (ds : List (D U)) : Option Bool := match ds with
  | [c0] => (boolU c0).bind fun a0 => some (a0)
  | _ => none
theorem get4 {ds : List (D U)} {x : U 4} (h : dset4 ds = some x) : dget 4 x = ds := by
  unfold dset4 at h
  split at h
  · obtain ⟨a0, h0, h⟩ := Option.bind_eq_some_iff.1 h
    cases h
    rw [boolU_eq h0]
    rfl
  · cases h
def dset41 (ds : List (D U)) : Option (List Int) := match ds with
  | [c0] => (arrU 3 c0).bind fun a0 => some (a0)
  | _ => none
theorem get41 {ds : List (D U)} {x : U 41} (h : dset41 ds = some x) : dget 41 x = ds := by
  unfold dset41 at h
  split at h
  · obtain ⟨a0, h0, h⟩ := Option.bind_eq_some_iff.1 h
    cases h
    rw [arrU_eq h0]
    rfl
  · cases h
def dset71 (ds : List (D U)) : Option SFloor := match ds with
  | [c0, c1, c2] => (intU .i64 c0).bind fun a0 => (intU .i64 c1).bind fun a1 => (arrU 3 c2).bind fun a2 => some ((⟨a0, a1, a2⟩ : SFloor))
  | _ => none
theorem get71 {ds : List (D U)} {x : U 71} (h : dset71 ds = some x) : dget 71 x = ds := by
  unfold dset71 at h
  split at h
  · obtain ⟨a0, h0, h⟩ := Option.bind_eq_some_iff.1 h
    obtain ⟨a1, h1, h⟩ := Option.bind_eq_some_iff.1 h
    obtain ⟨a2, h2, h⟩ := Option.bind_eq_some_iff.1 h
    cases h
    rw [intU_eq h0, intU_eq h1, arrU_eq h2]
    rfl
  · cases h
def dset72 (ds : List (D U)) : Option (List SCart) := match ds with
  | [c0] => (arrU 81 c0).bind fun a0 => some (a0)
  | _ => none
theorem get72 {ds : List (D U)} {x : U 72} (h : dset72 ds = some x) : dget 72 x = ds := by
  unfold dset72 at h
  split at h
  · obtain ⟨a0, h0, h⟩ := Option.bind_eq_some_iff.1 h
    cases h
    rw [arrU_eq h0]
    rfl
  · cases h
def dset81 (ds : List (D U)) : Option SCart := match ds with
  | [c0, c1] => (intU .i64 c0).bind fun a0 => (intU .i64 c1).bind fun a1 => some ((⟨a0, a1⟩ : SCart))
  | _ => none
theorem get81 {ds : List (D U)} {x : U 81} (h : dset81 ds = some x) : dget 81 x = ds := by
  unfold dset81 at h
  split at h
  · obtain ⟨a0, h0, h⟩ := Option.bind_eq_some_iff.1 h
    obtain ⟨a1, h1, h⟩ := Option.bind_eq_some_iff.1 h
    cases h
    rw [intU_eq h0, intU_eq h1]
    rfl
  · cases h
def dset86 (ds : List (D U)) : Option SFloor := match ds with
  | [c0, c1, c2] => (intU .i64 c0).bind fun a0 => (intU .i64 c1).bind fun a1 => (arrU 3 c2).bind fun a2 => some ((⟨a0, a1, a2⟩ : SFloor))
  | _ => none
theorem get86 {ds : List (D U)} {x : U 86} (h : dset86 ds = some x) : dget 86 x = ds := by
  unfold dset86 at h
  split at h
  · obtain ⟨a0, h0, h⟩ := Option.bind_eq_some_iff.1 h
    obtain ⟨a1, h1, h⟩ := Option.bind_eq_some_iff.1 h
    obtain ⟨a2, h2, h⟩ := Option.bind_eq_some_iff.1 h
    cases h
    rw [intU_eq h0, intU_eq h1, arrU_eq h2]
    rfl
  · cases h
def dset87 (ds : List (D U)) : Option (List SCart) := match ds with
  | [c0] => (arrU 157 c0).bind fun a0 => some (a0)
  | _ => none
theorem get87 {ds : List (D U)} {x : U 87} (h : dset87 ds = some x) : dget 87 x = ds := by
  unfold dset87 at h
  split at h
  · obtain ⟨a0, h0, h⟩ := Option.bind_eq_some_iff.1 h
    cases h
    rw [arrU_eq h0]
    rfl
  · cases h
def dset157 (ds : List (D U)) : Option SCart := match ds with
  | [c0, c1] => (intU .i64 c0).bind fun a0 => (intU .i64 c1).bind fun a1 => some ((⟨a0, a1⟩ : SCart))
  | _ => none
theorem get157 {ds : List (D U)} {x : U 157} (h : dset157 ds = some x) : dget 157 x = ds := by
  unfold dset157 at h
  split at h
  · obtain ⟨a0, h0, h⟩ := Option.bind_eq_some_iff.1 h
    obtain ⟨a1, h1, h⟩ := Option.bind_eq_some_iff.1 h
    cases h
    rw [intU_eq h0, intU_eq h1]
    rfl
  · cases h
def dset188 (ds : List (D U)) : Option SArr2_Int := match ds with
  | [c0, c1] => (intU .i64 c0).bind fun a0 => (intU .i64 c1).bind fun a1 => some ((⟨a0, a1⟩ : SArr2_Int))
  | _ => none
theorem get188 {ds : List (D U)} {x : U 188} (h : dset188 ds = some x) : dget 188 x = ds := by
  unfold dset188 at h
  split at h
  · obtain ⟨a0, h0, h⟩ := Option.bind_eq_some_iff.1 h
    obtain ⟨a1, h1, h⟩ := Option.bind_eq_some_iff.1 h
    cases h
    rw [intU_eq h0, intU_eq h1]
    rfl
  · cases h
def dset189 (ds : List (D U)) : Option (List SArr2_Int) := match ds with
  | [c0] => (arrU 188 c0).bind fun a0 => some (a0)
  | _ => none
theorem get189 {ds : List (D U)} {x : U 189} (h : dset189 ds = some x) : dget 189 x = ds := by
  unfold dset189 at h
  split at h
  · obtain ⟨a0, h0, h⟩ := Option.bind_eq_some_iff.1 h
    cases h
    rw [arrU_eq h0]
    rfl
  · cases h
def castU {t t2 : Nat} (h : t2 = t) (x : Option (U t)) : Option (U t2) := h ▸ x
def dset (t : Nat) (ds : List (D U)) : Option (U t) :=
  if h : t = 3 then castU h (dset3 ds) else
  if h : t = 4 then castU h (dset4 ds) else
  if h : t = 41 then castU h (dset41 ds) else
  if h : t = 71 then castU h (dset71 ds) else
  if h : t = 72 then castU h (dset72 ds) else
  if h : t = 81 then castU h (dset81 ds) else
  if h : t = 86 then castU h (dset86 ds) else
  if h : t = 87 then castU h (dset87 ds) else
  if h : t = 157 then castU h (dset157 ds) else
  if h : t = 188 then castU h (dset188 ds) else
  if h : t = 189 then castU h (dset189 ds) else
  none
def ty0 : Nat → Ty
  | 3 => .int .i64
  | 4 => .bool
  | 41 => .slice 3
  | 71 => .struct [(0, 3), (1, 3), (2, 41)]
  | 72 => .slice 81
  | 81 => .struct [(0, 3), (1, 3)]
  | 86 => .struct [(0, 3), (1, 3), (2, 41)]
  | 87 => .slice 157
  | 157 => .struct [(0, 3), (1, 3)]
  | 188 => .arr 2 3
  | 189 => .slice 188
  | _ => .other
def ty (t : Nat) : Ty := bif Nat.ble 100000 t then .ref (t - 100000) else ty0 t
def size : Nat → Nat
  | 3 => 1
  | 4 => 1
  | 41 => 1
  | 71 => 3
  | 72 => 1
  | 81 => 2
  | 86 => 3
  | 87 => 1
  | 157 => 2
  | 188 => 2
  | 189 => 1
  | _ => 0
def bytes : Nat → Nat
  | 3 => 8
  | 4 => 1
  | 41 => 24
  | 71 => 40
  | 72 => 24
  | 81 => 16
  | 86 => 40
  | 87 => 24
  | 157 => 16
  | 188 => 16
  | 189 => 24
  | _ => 0
def zero : Nat → List Value
  | 3 => [.int .i64 0]
  | 4 => [.bool false]
  | 41 => [.slice none 0 0]
  | 71 => [.int .i64 0, .int .i64 0, .slice none 0 0]
  | 72 => [.slice none 0 0]
  | 81 => [.int .i64 0, .int .i64 0]
  | 86 => [.int .i64 0, .int .i64 0, .slice none 0 0]
  | 87 => [.slice none 0 0]
  | 157 => [.int .i64 0, .int .i64 0]
  | 188 => [.int .i64 0, .int .i64 0]
  | 189 => [.slice none 0 0]
  | _ => []
def ceq (t : Nat) : Bool := false
def sgs : List (Nat × Sig) := [(11, ⟨[86, 87], [.ro, .ro], .own⟩),
  (43, ⟨[71], [.ro], .own⟩),
  (44, ⟨[71, 72], [.ro, .ro], .own⟩),
  (45, ⟨[71, 72], [.ro, .ro], .own⟩),
  (46, ⟨[71, 72], [.ro, .ro], .own⟩),
  (48, ⟨[71, 3], [.ro, .ro], .own⟩),
  (50, ⟨[86, 3], [.ro, .ro], .own⟩),
  (51, ⟨[87, 3], [.ro, .ro], .own⟩),
  (52, ⟨[71, 72], [.ro, .ro], .own⟩),
  (53, ⟨[86], [.ro], .own⟩),
  (54, ⟨[87], [.ro], .own⟩),
  (55, ⟨[72, 72], [.ro, .ro], .own⟩),
  (56, ⟨[41, 41], [.ro, .ro], .own⟩),
  (57, ⟨[71, 71], [.ro, .ro], .own⟩),
  (58, ⟨[71, 3], [.rws, .ro], .own⟩),
  (59, ⟨[72, 3], [.rws, .ro], .own⟩),
  (60, ⟨[41, 3], [.rws, .ro], .own⟩),
  (62, ⟨[41, 3], [.ro, .ro], .own⟩),
  (64, ⟨[71, 72], [.ro, .ro], .own⟩),
  (68, ⟨[3, 3, 3], [.ro, .ro, .ro], .own⟩),
  (71, ⟨[3, 3, 3], [.ro, .ro, .ro], .own⟩),
  (99, ⟨[41], [.ro], .own⟩),
  (119, ⟨[41, 3, 3], [.ro, .ro, .ro], .own⟩),
  (120, ⟨[71, 3], [.ro, .ro], .own⟩),
  (121, ⟨[72, 150], [.ro, .ro], .own⟩),
  (122, ⟨[81, 100081], [.ro, .ro], .own⟩),
  (123, ⟨[71, 81], [.ro, .ro], .own⟩),
  (124, ⟨[3, 100041, 100072], [.ro, .ro, .ro], .own⟩),
  (125, ⟨[72], [.ro], .own⟩),
  (126, ⟨[71, 3], [.ro, .ro], .own⟩),
  (127, ⟨[41, 3], [.ro, .ro], .own⟩),
  (128, ⟨[71], [.ro], .own⟩),
  (129, ⟨[71, 3, 3], [.ro, .ro, .ro], .own⟩),
  (131, ⟨[41, 3], [.ro, .ro], .own⟩),
  (132, ⟨[71, 72], [.ro, .ro], .own⟩),
  (133, ⟨[71, 81], [.ro, .ro], .own⟩),
  (134, ⟨[72, 41, 3], [.ro, .ro, .ro], .own⟩),
  (135, ⟨[41], [.ro], .own⟩),
  (136, ⟨[157], [.ro], .own⟩),
  (137, ⟨[81, 81], [.ro, .ro], .own⟩),
  (138, ⟨[41, 3], [.ro, .ro], .own⟩),
  (162, ⟨[41, 114], [.ro, .ro], .own⟩),
  (163, ⟨[3, 100003, 100003], [.ro, .ro, .ro], .own⟩),
  (164, ⟨[72, 150], [.ro, .ro], .own⟩),
  (165, ⟨[71, 3], [.ro, .ro], .own⟩),
  (166, ⟨[3, 100041, 100003], [.ro, .ro, .ro], .own⟩),
  (167, ⟨[41, 3], [.ro, .ro], .own⟩),
  (168, ⟨[41, 3, 3], [.ro, .ro, .ro], .own⟩),
  (179, ⟨[41, 114], [.ro, .ro], .own⟩)]
def lookS (f : Nat) : List (Nat × Sig) → Sig
  | [] => ⟨[], [], .own⟩
  | (g, s) :: r => bif Nat.beq f g then s else lookS f r
def sg (f : Nat) : Sig := lookS f sgs
def cap (f : Nat) : List Nat := bif Nat.beq f 122 then [100081] else bif Nat.beq f 124 then [100041, 100072] else bif Nat.beq f 163 then [100003, 100003] else bif Nat.beq f 166 then [100041, 100003] else []
def T : Tbl := { U := U, ty := ty, size := size, bytes := bytes, zero := zero, dget := dget, dset := dset, dflt := dflt, ceq := ceq, keq := fun _ _ _ => false, sg := sg, cap := cap }
theorem t_len : ∀ t x, (dget t x).length = size t := by
  intro t x
  unfold dget size
  split
  · rfl
  · rfl
  · rfl
  · rfl
  · rfl
  · rfl
  · rfl
  · rfl
  · rfl
  · rfl
  · rfl
  · rename_i h
    split <;> first | rfl | exact absurd rfl (h _) | simp_all
theorem t_get : ∀ t ds x, dset t ds = some x → dget t x = ds := by
  intro t ds x h
  by_cases e3 : t = 3
  · subst e3; exact get3 (show dset3 ds = some x from h)
  by_cases e4 : t = 4
  · subst e4; exact get4 (show dset4 ds = some x from h)
  by_cases e41 : t = 41
  · subst e41; exact get41 (show dset41 ds = some x from h)
  by_cases e71 : t = 71
  · subst e71; exact get71 (show dset71 ds = some x from h)
  by_cases e72 : t = 72
  · subst e72; exact get72 (show dset72 ds = some x from h)
  by_cases e81 : t = 81
  · subst e81; exact get81 (show dset81 ds = some x from h)
  by_cases e86 : t = 86
  · subst e86; exact get86 (show dset86 ds = some x from h)
  by_cases e87 : t = 87
  · subst e87; exact get87 (show dset87 ds = some x from h)
  by_cases e157 : t = 157
  · subst e157; exact get157 (show dset157 ds = some x from h)
  by_cases e188 : t = 188
  · subst e188; exact get188 (show dset188 ds = some x from h)
  by_cases e189 : t = 189
  · subst e189; exact get189 (show dset189 ds = some x from h)
  unfold dset at h
  rw [dif_neg e3, dif_neg e4, dif_neg e41, dif_neg e71, dif_neg e72, dif_neg e81, dif_neg e86, dif_neg e87, dif_neg e157, dif_neg e188, dif_neg e189] at h
  cases h
theorem t_pat : ∀ t x, (dget t x).map D.isArr = (dget t (dflt t)).map D.isArr := by
  intro t x
  unfold dget
  split
  · rfl
  · rfl
  · rfl
  · rfl
  · rfl
  · rfl
  · rfl
  · rfl
  · rfl
  · rfl
  · rfl
  · rename_i h
    split <;> first | rfl | exact absurd rfl (h _) | simp_all
theorem t_slice : ∀ t e, ty t = .slice e → Try.prog.underlying t = some (.slice e) := by
  intro t e h
  unfold ty at h
  cases hb : Nat.ble 100000 t <;> rw [hb] at h
  · simp only [cond_false] at h
    unfold ty0 at h
    split at h
    · cases h
    · cases h
    · cases h; exact Try.underlying41
    · cases h
    · cases h; exact Try.underlying72
    · cases h
    · cases h
    · cases h; exact Try.underlying87
    · cases h
    · cases h
    · cases h; exact Try.underlying189
    · cases h
  · cases h
theorem t_arr : ∀ t n e, ty t = .arr n e → Try.prog.underlying t = some (.array n e) := by
  intro t n e h
  unfold ty at h
  cases hb : Nat.ble 100000 t <;> rw [hb] at h
  · simp only [cond_false] at h
    unfold ty0 at h
    split at h
    · cases h
    · cases h
    · cases h
    · cases h
    · cases h
    · cases h
    · cases h
    · cases h
    · cases h
    · cases h; exact Try.underlying188
    · cases h
    · cases h
  · cases h
theorem t_str : ∀ t, ty t = .str → Try.prog.underlying t = some .string := by
  intro t h
  unfold ty at h
  cases hb : Nat.ble 100000 t <;> rw [hb] at h
  · simp only [cond_false] at h
    unfold ty0 at h
    split at h
    · cases h
    · cases h
    · cases h
    · cases h
    · cases h
    · cases h
    · cases h
    · cases h
    · cases h
    · cases h
    · cases h
    · cases h
  · cases h
theorem t_bool : ∀ t, ty t = .bool → Try.prog.underlying t = some .bool := by
  intro t h
  unfold ty at h
  cases hb : Nat.ble 100000 t <;> rw [hb] at h
  · simp only [cond_false] at h
    unfold ty0 at h
    split at h
    · cases h
    · exact Try.underlying4
    · cases h
    · cases h
    · cases h
    · cases h
    · cases h
    · cases h
    · cases h
    · cases h
    · cases h
    · cases h
  · cases h
theorem t_int : ∀ t k, ty t = .int k → Try.prog.underlying t = some (.int k) := by
  intro t k h
  unfold ty at h
  cases hb : Nat.ble 100000 t <;> rw [hb] at h
  · simp only [cond_false] at h
    unfold ty0 at h
    split at h
    · cases h; exact Try.underlying3
    · cases h
    · cases h
    · cases h
    · cases h
    · cases h
    · cases h
    · cases h
    · cases h
    · cases h
    · cases h
    · cases h
  · cases h
theorem t_intC : ∀ t k, ty t = .int k → ∀ x, ∃ n, dget t x = [.int k n] := by
  intro t k h
  unfold ty at h
  cases hb : Nat.ble 100000 t <;> rw [hb] at h
  · simp only [cond_false] at h
    unfold ty0 at h
    split at h
    · cases h; exact fun x => ⟨x, rfl⟩
    · cases h
    · cases h
    · cases h
    · cases h
    · cases h
    · cases h
    · cases h
    · cases h
    · cases h
    · cases h
    · cases h
  · cases h
theorem t_ptr : ∀ t e, ty t = .ptr e → Try.prog.underlying t = some (.pointer e) := by
  intro t e h
  unfold ty at h
  cases hb : Nat.ble 100000 t <;> rw [hb] at h
  · simp only [cond_false] at h
    unfold ty0 at h
    split at h
    · cases h
    · cases h
    · cases h
    · cases h
    · cases h
    · cases h
    · cases h
    · cases h
    · cases h
    · cases h
    · cases h
    · cases h
  · cases h
theorem t_map : ∀ t k e, ty t = .map k e → Try.prog.underlying t = some (.map k e) := by
  intro t k e h
  unfold ty at h
  cases hb : Nat.ble 100000 t <;> rw [hb] at h
  · simp only [cond_false] at h
    unfold ty0 at h
    split at h
    · cases h
    · cases h
    · cases h
    · cases h
    · cases h
    · cases h
    · cases h
    · cases h
    · cases h
    · cases h
    · cases h
    · cases h
  · cases h
theorem t_struct : ∀ t fs, ty t = .struct fs → ∃ fields : Array Field, Try.prog.underlying t = some (.struct fields) ∧ fs = fields.toList.map (fun f => (f.offset, f.type)) ∧ (∀ f ∈ fields.toList, 0 < size f.type ∧ f.name ≠ "_") := by
  intro t fs h
  unfold ty at h
  cases hb : Nat.ble 100000 t <;> rw [hb] at h
  · simp only [cond_false] at h
    unfold ty0 at h
    split at h
    · cases h
    · cases h
    · cases h
    · cases h; exact ⟨_, Try.underlying71, rfl, fchk_ok (by rfl)⟩
    · cases h
    · cases h; exact ⟨_, Try.underlying81, rfl, fchk_ok (by rfl)⟩
    · cases h; exact ⟨_, Try.underlying86, rfl, fchk_ok (by rfl)⟩
    · cases h
    · cases h; exact ⟨_, Try.underlying157, rfl, fchk_ok (by rfl)⟩
    · cases h
    · cases h
    · cases h
  · cases h
theorem t_info : ∀ t, 0 < size t → ∃ i, Try.prog.info? t = some i ∧ i.size = size t ∧ i.bytes = bytes t ∧ ∃ z, i.zero = some z ∧ z.cells.toList = zero t ∧ (Go.Sm.isAgg T t = true → ∃ cs, z = .agg cs) := by
  intro t h
  unfold size at h
  split at h
  · exact ⟨Try.t3, by kernel_rfl, rfl, rfl, _, rfl, rfl, fun h => nomatch (show false = true from h)⟩
  · exact ⟨Try.t4, by kernel_rfl, rfl, rfl, _, rfl, rfl, fun h => nomatch (show false = true from h)⟩
  · exact ⟨Try.t41, by kernel_rfl, rfl, rfl, _, rfl, rfl, fun h => nomatch (show false = true from h)⟩
  · exact ⟨Try.t71, by kernel_rfl, rfl, rfl, _, rfl, rfl, fun h => ⟨_, rfl⟩⟩
  · exact ⟨Try.t72, by kernel_rfl, rfl, rfl, _, rfl, rfl, fun h => nomatch (show false = true from h)⟩
  · exact ⟨Try.t81, by kernel_rfl, rfl, rfl, _, rfl, rfl, fun h => ⟨_, rfl⟩⟩
  · exact ⟨Try.t86, by kernel_rfl, rfl, rfl, _, rfl, rfl, fun h => ⟨_, rfl⟩⟩
  · exact ⟨Try.t87, by kernel_rfl, rfl, rfl, _, rfl, rfl, fun h => nomatch (show false = true from h)⟩
  · exact ⟨Try.t157, by kernel_rfl, rfl, rfl, _, rfl, rfl, fun h => ⟨_, rfl⟩⟩
  · exact ⟨Try.t188, by kernel_rfl, rfl, rfl, _, rfl, rfl, fun h => ⟨_, rfl⟩⟩
  · exact ⟨Try.t189, by kernel_rfl, rfl, rfl, _, rfl, rfl, fun h => nomatch (show false = true from h)⟩
  · exact absurd h (Nat.lt_irrefl _)
theorem t_agg : ∀ t, 0 < size t → ((match Try.prog.underlying t with | some (.struct _) => true | some (.array _ _) => true | _ => false) = Go.Sm.isAgg T t) := by
  intro t h
  unfold size at h
  split at h
  · rw [Try.underlying3]; rfl
  · rw [Try.underlying4]; rfl
  · rw [Try.underlying41]; rfl
  · rw [Try.underlying71]; rfl
  · rw [Try.underlying72]; rfl
  · rw [Try.underlying81]; rfl
  · rw [Try.underlying86]; rfl
  · rw [Try.underlying87]; rfl
  · rw [Try.underlying157]; rfl
  · rw [Try.underlying188]; rfl
  · rw [Try.underlying189]; rfl
  · exact absurd h (Nat.lt_irrefl _)
theorem t_und : ∀ t, 0 < size t → ∃ d, Try.prog.underlying t = some d := by
  intro t h
  unfold size at h
  split at h
  · exact ⟨_, Try.underlying3⟩
  · exact ⟨_, Try.underlying4⟩
  · exact ⟨_, Try.underlying41⟩
  · exact ⟨_, Try.underlying71⟩
  · exact ⟨_, Try.underlying72⟩
  · exact ⟨_, Try.underlying81⟩
  · exact ⟨_, Try.underlying86⟩
  · exact ⟨_, Try.underlying87⟩
  · exact ⟨_, Try.underlying157⟩
  · exact ⟨_, Try.underlying188⟩
  · exact ⟨_, Try.underlying189⟩
  · exact absurd h (Nat.lt_irrefl _)
theorem t_zv : ∀ t, 0 < size t → Go.Sm.isAgg T t = false → ∃ i z, Try.prog.info? t = some i ∧ i.zero = some z ∧ ∀ cs, z ≠ .agg cs := by
  intro t h
  unfold size at h
  split at h
  · exact fun _ => ⟨Try.t3, .int .i64 0, by kernel_rfl, rfl, fun cs h => nomatch h⟩
  · exact fun _ => ⟨Try.t4, .bool false, by kernel_rfl, rfl, fun cs h => nomatch h⟩
  · exact fun _ => ⟨Try.t41, .slice none 0 0, by kernel_rfl, rfl, fun cs h => nomatch h⟩
  · exact fun h => nomatch (show true = false from h)
  · exact fun _ => ⟨Try.t72, .slice none 0 0, by kernel_rfl, rfl, fun cs h => nomatch h⟩
  · exact fun h => nomatch (show true = false from h)
  · exact fun h => nomatch (show true = false from h)
  · exact fun _ => ⟨Try.t87, .slice none 0 0, by kernel_rfl, rfl, fun cs h => nomatch h⟩
  · exact fun h => nomatch (show true = false from h)
  · exact fun h => nomatch (show true = false from h)
  · exact fun _ => ⟨Try.t189, .slice none 0 0, by kernel_rfl, rfl, fun cs h => nomatch h⟩
  · exact absurd h (Nat.lt_irrefl _)
theorem t_zero : ∀ t, 0 < size t → (zero t).length = size t ∧ ∀ (j : Nat) (d : D U) (v : Value), (dget t (dflt t))[j]? = some d → (zero t)[j]? = some v → plainD (T := T) d v ∨ ∃ u, d = .arr u [] ∧ v = .slice none 0 0 := by
  intro t h
  have hh : zchk (U := U) (fun t l => isNilL t l) (dget t (dflt t)) (zero t) = true := by
    unfold size at h
    split at h
    · rfl
    · rfl
    · rfl
    · rfl
    · rfl
    · rfl
    · rfl
    · rfl
    · rfl
    · rfl
    · rfl
    · exact absurd h (Nat.lt_irrefl _)
  obtain ⟨h1, h2⟩ := zchk_ok (T := T) hh
  exact ⟨h1.trans (t_len _ _), h2⟩
theorem t_eqs : ∀ t, T.ceq t = true → EqOk Try.prog T t := by
  intro t h
  have h : ceq t = true := h
  unfold ceq at h
  cases h
theorem ok : TblOk Try.prog T := { len := t_len, get := t_get, pat := t_pat, slice := t_slice, arr := t_arr, str := t_str, bool := t_bool, int := t_int, intC := t_intC, struct := t_struct, ptr := t_ptr, map := t_map, info := t_info, agg := t_agg, zero := t_zero, und := t_und, zv := t_zv, eqs := t_eqs }
end Go.Sm.C11
