import Derived.Test.YtikjficedlkjjaaEngD
import Derived.Test.YtikjficedlkjjaaC8Fn
import Derived.Test.YtikjficedlkjjaaProg
/- The program's types as the evaluator sees them. -/
set_option linter.unusedSimpArgs false
set_option linter.deprecated false
set_option linter.unusedSectionVars false
set_option linter.unusedVariables false
set_option maxRecDepth 100000
open Go Go.Proofs
noncomputable section
namespace Go.Sm.C8
def UI : Nat → (α : Type) × α
  | 3 => ⟨Int, (0 : Int)⟩
  | 4 => ⟨Bool, false⟩
  | 5 => ⟨Int, (0 : Int)⟩
  | 22 => ⟨List Int, []⟩
  | 41 => ⟨List Int, []⟩
  | 71 => ⟨SFloor, dSFloor⟩
  | 72 => ⟨List SCart, []⟩
  | 80 => ⟨SCart, dSCart⟩
  | 81 => ⟨SCart, dSCart⟩
  | 160 => ⟨Sl1Cur, dSl1Cur⟩
  | 188 => ⟨SArr2_Int, dSArr2_Int⟩
  | 189 => ⟨List SArr2_Int, []⟩
  | _ => ⟨Unit, ()⟩
abbrev U (t : Nat) : Type := (UI t).1
def dflt (t : Nat) : U t := (UI t).2
def dget : (t : Nat) → U t → List (D U)
  | 3, x => (fun (x : Int) => ([.int .i64 x] : List (D U))) x
  | 4, x => (fun (x : Bool) => ([.bool x] : List (D U))) x
  | 5, x => (fun (x : Int) => ([.int .u8 x] : List (D U))) x
  | 22, x => (fun (x : List Int) => ([.arr 5 x] : List (D U))) x
  | 41, x => (fun (x : List Int) => ([.arr 3 x] : List (D U))) x
  | 71, x => (fun (x : SFloor) => ([.int .i64 x.Wide, .int .i64 x.High, .arr 3 x.Ways] : List (D U))) x
  | 72, x => (fun (x : List SCart) => ([.arr 81 x] : List (D U))) x
  | 80, x => (fun (x : SCart) => ([.int .i64 x.At, .int .i64 x.Goal] : List (D U))) x
  | 81, x => (fun (x : SCart) => ([.int .i64 x.At, .int .i64 x.Goal] : List (D U))) x
  | 160, x => (fun (x : Sl1Cur) => ([.arr 5 x.b, .int .i64 x.i, .int .i64 x.h] : List (D U))) x
  | 188, x => (fun (x : SArr2_Int) => ([.int .i64 x.x0, .int .i64 x.x1] : List (D U))) x
  | 189, x => (fun (x : List SArr2_Int) => ([.arr 188 x] : List (D U))) x
  | _, _ => []
def dset3 (ds : List (D U)) : Option Int := match ds with
  | [c0] => (intU .i64 c0).bind fun a0 => some (a0)
  | _ => none
theorem get3 {ds : List (D U)} {x : U 3} (h : dset3 ds = some x) : dget 3 x = ds := by
  unfold dset3 at h
  split at h
  · obtain ⟨a0, h0, h⟩ := Option.bind_eq_some_iff.1 h
    cases h
    rw [intU_eq h0]
    rfl
  · cases h
def dset4 (ds : List (D U)) : Option Bool := match ds with
  | [c0] => (boolU c0).bind fun a0 => some (a0)
  | _ => none
theorem get4 {ds : List (D U)} {x : U 4} (h : dset4 ds = some x) : dget 4 x = ds := by
  unfold dset4 at h
  split at h
  · obtain ⟨a0, h0, h⟩ := Option.bind_eq_some_iff.1 h
    cases h
    rw [boolU_eq h0]
    rfl
  · cases h
def dset5 (ds : List (D U)) : Option Int := match ds with
  | [c0] => (intU .u8 c0).bind fun a0 => some (a0)
  | _ => none
theorem get5 {ds : List (D U)} {x : U 5} (h : dset5 ds = some x) : dget 5 x = ds := by
  unfold dset5 at h
  split at h
  · obtain ⟨a0, h0, h⟩ := Option.bind_eq_some_iff.1 h
    cases h
    rw [intU_eq h0]
    rfl
  · cases h
def dset22 (ds : List (D U)) : Option (List Int) := match ds with
  | [c0] => (arrU 5 c0).bind fun a0 => some (a0)
  | _ => none
theorem get22 {ds : List (D U)} {x : U 22} (h : dset22 ds = some x) : dget 22 x = ds := by
  unfold dset22 at h
  split at h
  · obtain ⟨a0, h0, h⟩ := Option.bind_eq_some_iff.1 h
    cases h
    rw [arrU_eq h0]
    rfl
  · cases h
def dset41 (ds : List (D U)) : Option (List Int) := match ds with
  | [c0] => (arrU 3 c0).bind fun a0 => some (a0)
  | _ => none
theorem get41 {ds : List (D U)} {x : U 41} (h : dset41 ds = some x) : dget 41 x = ds := by
  unfold dset41 at h
  split at h
  · obtain ⟨a0, h0, h⟩ := Option.bind_eq_some_iff.1 h
    cases h
    rw [arrU_eq h0]
    rfl
  · cases h
def dset71 (ds : List (D U)) : Option SFloor := match ds with
  | [c0, c1, c2] => (intU .i64 c0).bind fun a0 => (intU .i64 c1).bind fun a1 => (arrU 3 c2).bind fun a2 => some ((⟨a0, a1, a2⟩ : SFloor))
  | _ => none
theorem get71 {ds : List (D U)} {x : U 71} (h : dset71 ds = some x) : dget 71 x = ds := by
  unfold dset71 at h
  split at h
  · obtain ⟨a0, h0, h⟩ := Option.bind_eq_some_iff.1 h
    obtain ⟨a1, h1, h⟩ := Option.bind_eq_some_iff.1 h
    obtain ⟨a2, h2, h⟩ := Option.bind_eq_some_iff.1 h
    cases h
    rw [intU_eq h0, intU_eq h1, arrU_eq h2]
    rfl
  · cases h
def dset72 (ds : List (D U)) : Option (List SCart) := match ds with
  | [c0] => (arrU 81 c0).bind fun a0 => some (a0)
  | _ => none
theorem get72 {ds : List (D U)} {x : U 72} (h : dset72 ds = some x) : dget 72 x = ds := by
  unfold dset72 at h
  split at h
  · obtain ⟨a0, h0, h⟩ := Option.bind_eq_some_iff.1 h
    cases h
    rw [arrU_eq h0]
    rfl
  · cases h
def dset80 (ds : List (D U)) : Option SCart := match ds with
  | [c0, c1] => (intU .i64 c0).bind fun a0 => (intU .i64 c1).bind fun a1 => some ((⟨a0, a1⟩ : SCart))
  | _ => none
theorem get80 {ds : List (D U)} {x : U 80} (h : dset80 ds = some x) : dget 80 x = ds := by
  unfold dset80 at h
  split at h
  · obtain ⟨a0, h0, h⟩ := Option.bind_eq_some_iff.1 h
    obtain ⟨a1, h1, h⟩ := Option.bind_eq_some_iff.1 h
    cases h
    rw [intU_eq h0, intU_eq h1]
    rfl
  · cases h
def dset81 (ds : List (D U)) : Option SCart := match ds with
  | [c0, c1] => (intU .i64 c0).bind fun a0 => (intU .i64 c1).bind fun a1 => some ((⟨a0, a1⟩ : SCart))
  | _ => none
theorem get81 {ds : List (D U)} {x : U 81} (h : dset81 ds = some x) : dget 81 x = ds := by
  unfold dset81 at h
  split at h
  · obtain ⟨a0, h0, h⟩ := Option.bind_eq_some_iff.1 h
    obtain ⟨a1, h1, h⟩ := Option.bind_eq_some_iff.1 h
    cases h
    rw [intU_eq h0, intU_eq h1]
    rfl
  · cases h
def dset160 (ds : List (D U)) : Option Sl1Cur := match ds with
  | [c0, c1, c2] => (arrU 5 c0).bind fun a0 => (intU .i64 c1).bind fun a1 => (intU .i64 c2).bind fun a2 => some ((⟨a0, a1, a2⟩ : Sl1Cur))
  | _ => none
theorem get160 {ds : List (D U)} {x : U 160} (h : dset160 ds = some x) : dget 160 x = ds := by
  unfold dset160 at h
  split at h
  · obtain ⟨a0, h0, h⟩ := Option.bind_eq_some_iff.1 h
    obtain ⟨a1, h1, h⟩ := Option.bind_eq_some_iff.1 h
    obtain ⟨a2, h2, h⟩ := Option.bind_eq_some_iff.1 h
    cases h
    rw [arrU_eq h0, intU_eq h1, intU_eq h2]
    rfl
  · cases h
def dset188 (ds : List (D U)) : Option SArr2_Int := match ds with
  | [c0, c1] => (intU .i64 c0).bind fun a0 => (intU .i64 c1).bind fun a1 => some ((⟨a0, a1⟩ : SArr2_Int))
  | _ => none
theorem get188 {ds : List (D U)} {x : U 188} (h : dset188 ds = some x) : dget 188 x = ds := by
  unfold dset188 at h
  split at h
  · obtain ⟨a0, h0, h⟩ := Option.bind_eq_some_iff.1 h
    obtain ⟨a1, h1, h⟩ := Option.bind_eq_some_iff.1 h
    cases h
    rw [intU_eq h0, intU_eq h1]
    rfl
  · cases h
def dset189 (ds : List (D U)) : Option (List SArr2_Int) := match ds with
  | [c0] => (arrU 188 c0).bind fun a0 => some (a0)
  | _ => none
theorem get189 {ds : List (D U)} {x : U 189} (h : dset189 ds = some x) : dget 189 x = ds := by
  unfold dset189 at h
  split at h
  · obtain ⟨a0, h0, h⟩ := Option.bind_eq_some_iff.1 h
    cases h
    rw [arrU_eq h0]
    rfl
  · cases h
def castU {t t2 : Nat} (h : t2 = t) (x : Option (U t)) : Option (U t2) := h ▸ x
def dset (t : Nat) (ds : List (D U)) : Option (U t) :=
  if h : t = 3 then castU h (dset3 ds) else
  if h : t = 4 then castU h (dset4 ds) else
  if h : t = 5 then castU h (dset5 ds) else
  if h : t = 22 then castU h (dset22 ds) else
  if h : t = 41 then castU h (dset41 ds) else
  if h : t = 71 then castU h (dset71 ds) else
  if h : t = 72 then castU h (dset72 ds) else
  if h : t = 80 then castU h (dset80 ds) else
  if h : t = 81 then castU h (dset81 ds) else
  if h : t = 160 then castU h (dset160 ds) else
  if h : t = 188 then castU h (dset188 ds) else
  if h : t = 189 then castU h (dset189 ds) else
  none
def ty0 : Nat → Ty
  | 3 => .int .i64
  | 4 => .bool
  | 5 => .int .u8
  | 22 => .slice 5
  | 41 => .slice 3
  | 71 => .struct [(0, 3), (1, 3), (2, 41)]
  | 72 => .slice 81
  | 80 => .struct [(0, 3), (1, 3)]
  | 81 => .struct [(0, 3), (1, 3)]
  | 160 => .struct [(0, 22), (1, 3), (2, 3)]
  | 188 => .arr 2 3
  | 189 => .slice 188
  | 100 => .ptr 160
  | _ => .other
def ty (t : Nat) : Ty := bif Nat.ble 100000 t then .ref (t - 100000) else ty0 t
def size : Nat → Nat
  | 3 => 1
  | 4 => 1
  | 5 => 1
  | 22 => 1
  | 41 => 1
  | 71 => 3
  | 72 => 1
  | 80 => 2
  | 81 => 2
  | 160 => 3
  | 188 => 2
  | 189 => 1
  | _ => 0
def bytes : Nat → Nat
  | 3 => 8
  | 4 => 1
  | 5 => 1
  | 22 => 24
  | 41 => 24
  | 71 => 40
  | 72 => 24
  | 80 => 16
  | 81 => 16
  | 160 => 40
  | 188 => 16
  | 189 => 24
  | _ => 0
def zero : Nat → List Value
  | 3 => [.int .i64 0]
  | 4 => [.bool false]
  | 5 => [.int .u8 0]
  | 22 => [.slice none 0 0]
  | 41 => [.slice none 0 0]
  | 71 => [.int .i64 0, .int .i64 0, .slice none 0 0]
  | 72 => [.slice none 0 0]
  | 80 => [.int .i64 0, .int .i64 0]
  | 81 => [.int .i64 0, .int .i64 0]
  | 160 => [.slice none 0 0, .int .i64 0, .int .i64 0]
  | 188 => [.int .i64 0, .int .i64 0]
  | 189 => [.slice none 0 0]
  | _ => []
def ceq (t : Nat) : Bool := Nat.beq t 81
def sgs : List (Nat × Sig) := [(8, ⟨[22], [.ro], .own⟩),
  (12, ⟨[22], [.ro], .own⟩),
  (42, ⟨[22], [.ro], .ro⟩),
  (43, ⟨[71], [.ro], .own⟩),
  (44, ⟨[71, 72], [.ro, .ro], .own⟩),
  (45, ⟨[71, 72], [.ro, .ro], .own⟩),
  (46, ⟨[71, 72], [.ro, .ro], .own⟩),
  (47, ⟨[41, 3], [.ro, .ro], .own⟩),
  (48, ⟨[71, 3], [.ro, .ro], .own⟩),
  (49, ⟨[71, 72, 3], [.ro, .ro, .ro], .own⟩),
  (65, ⟨[22], [.ro], .shal⟩),
  (68, ⟨[3, 3, 3], [.ro, .ro, .ro], .own⟩),
  (71, ⟨[3, 3, 3], [.ro, .ro, .ro], .own⟩),
  (76, ⟨[100, 3], [.rwv, .ro], .own⟩),
  (78, ⟨[100, 3], [.rwv, .ro], .own⟩),
  (99, ⟨[41], [.ro], .own⟩),
  (117, ⟨[100], [.rwv], .own⟩),
  (118, ⟨[100, 71], [.rwv, .ro], .own⟩),
  (119, ⟨[41, 3, 3], [.ro, .ro, .ro], .own⟩),
  (120, ⟨[71, 3], [.ro, .ro], .own⟩),
  (121, ⟨[72, 150], [.ro, .ro], .own⟩),
  (122, ⟨[81, 100081], [.ro, .ro], .own⟩),
  (123, ⟨[71, 81], [.ro, .ro], .own⟩),
  (124, ⟨[3, 100041, 100072], [.ro, .ro, .ro], .own⟩),
  (125, ⟨[72], [.ro], .own⟩),
  (126, ⟨[71, 3], [.ro, .ro], .own⟩),
  (127, ⟨[41, 3], [.ro, .ro], .own⟩),
  (128, ⟨[71], [.ro], .own⟩),
  (129, ⟨[71, 3, 3], [.ro, .ro, .ro], .own⟩),
  (130, ⟨[81], [.ro], .own⟩),
  (143, ⟨[100], [.rwv], .own⟩),
  (161, ⟨[3, 3], [.ro, .ro], .own⟩),
  (162, ⟨[41, 114], [.ro, .ro], .own⟩),
  (163, ⟨[3, 100003, 100003], [.ro, .ro, .ro], .own⟩),
  (164, ⟨[72, 150], [.ro, .ro], .own⟩),
  (165, ⟨[71, 3], [.ro, .ro], .own⟩),
  (166, ⟨[3, 100041, 100003], [.ro, .ro, .ro], .own⟩),
  (167, ⟨[41, 3], [.ro, .ro], .own⟩),
  (168, ⟨[41, 3, 3], [.ro, .ro, .ro], .own⟩),
  (179, ⟨[41, 114], [.ro, .ro], .own⟩)]
def lookS (f : Nat) : List (Nat × Sig) → Sig
  | [] => ⟨[], [], .own⟩
  | (g, s) :: r => bif Nat.beq f g then s else lookS f r
def sg (f : Nat) : Sig := lookS f sgs
def cap (f : Nat) : List Nat := bif Nat.beq f 122 then [100081] else bif Nat.beq f 124 then [100041, 100072] else bif Nat.beq f 163 then [100003, 100003] else bif Nat.beq f 166 then [100041, 100003] else []
def T : Tbl := { U := U, ty := ty, size := size, bytes := bytes, zero := zero, dget := dget, dset := dset, dflt := dflt, ceq := ceq, keq := fun _ _ _ => false, sg := sg, cap := cap }
theorem t_len : ∀ t x, (dget t x).length = size t := by
  intro t x
  unfold dget size
  split
  · rfl
  · rfl
  · rfl
  · rfl
  · rfl
  · rfl
  · rfl
  · rfl
  · rfl
  · rfl
  · rfl
  · rfl
  · rename_i h
    split <;> first | rfl | exact absurd rfl (h _) | simp_all
theorem t_get : ∀ t ds x, dset t ds = some x → dget t x = ds := by
  intro t ds x h
  by_cases e3 : t = 3
  · subst e3; exact get3 (show dset3 ds = some x from h)
  by_cases e4 : t = 4
  · subst e4; exact get4 (show dset4 ds = some x from h)
  by_cases e5 : t = 5
  · subst e5; exact get5 (show dset5 ds = some x from h)
  by_cases e22 : t = 22
  · subst e22; exact get22 (show dset22 ds = some x from h)
  by_cases e41 : t = 41
  · subst e41; exact get41 (show dset41 ds = some x from h)
  by_cases e71 : t = 71
  · subst e71; exact get71 (show dset71 ds = some x from h)
  by_cases e72 : t = 72
  · subst e72; exact get72 (show dset72 ds = some x from h)
  by_cases e80 : t = 80
  · subst e80; exact get80 (show dset80 ds = some x from h)
  by_cases e81 : t = 81
  · subst e81; exact get81 (show dset81 ds = some x from h)
  by_cases e160 : t = 160
  · subst e160; exact get160 (show dset160 ds = some x from h)
  by_cases e188 : t = 188
  · subst e188; exact get188 (show dset188 ds = some x from h)
  by_cases e189 : t = 189
  · subst e189; exact get189 (show dset189 ds = some x from h)
  unfold dset at h
  rw [dif_neg e3, dif_neg e4, dif_neg e5, dif_neg e22, dif_neg e41, dif_neg e71, dif_neg e72, dif_neg e80, dif_neg e81, dif_neg e160, dif_neg e188, dif_neg e189] at h
  cases h
theorem t_pat : ∀ t x, (dget t x).map D.isArr = (dget t (dflt t)).map D.isArr := by
  intro t x
  unfold dget
  split
  · rfl
  · rfl
  · rfl
  · rfl
  · rfl
  · rfl
  · rfl
  · rfl
  · rfl
  · rfl
  · rfl
  · rfl
  · rename_i h
    split <;> first | rfl | exact absurd rfl (h _) | simp_all
theorem t_slice : ∀ t e, ty t = .slice e → Try.prog.underlying t = some (.slice e) := by
  intro t e h
  unfold ty at h
  cases hb : Nat.ble 100000 t <;> rw [hb] at h
  · simp only [cond_false] at h
    unfold ty0 at h
    split at h
    · cases h
    · cases h
    · cases h
    · cases h; exact Try.underlying22
    · cases h; exact Try.underlying41
    · cases h
    · cases h; exact Try.underlying72
    · cases h
    · cases h
    · cases h
    · cases h
    · cases h; exact Try.underlying189
    · cases h
    · cases h
  · cases h
theorem t_arr : ∀ t n e, ty t = .arr n e → Try.prog.underlying t = some (.array n e) := by
  intro t n e h
  unfold ty at h
  cases hb : Nat.ble 100000 t <;> rw [hb] at h
  · simp only [cond_false] at h
    unfold ty0 at h
    split at h
    · cases h
    · cases h
    · cases h
    · cases h
    · cases h
    · cases h
    · cases h
    · cases h
    · cases h
    · cases h
    · cases h; exact Try.underlying188
    · cases h
    · cases h
    · cases h
  · cases h
theorem t_str : ∀ t, ty t = .str → Try.prog.underlying t = some .string := by
  intro t h
  unfold ty at h
  cases hb : Nat.ble 100000 t <;> rw [hb] at h
  · simp only [cond_false] at h
    unfold ty0 at h
    split at h
    · cases h
    · cases h
    · cases h
    · cases h
    · cases h
    · cases h
    · cases h
    · cases h
    · cases h
    · cases h
    · cases h
    · cases h
    · cases h
    · cases h
  · cases h
theorem t_bool : ∀ t, ty t = .bool → Try.prog.underlying t = some .bool := by
  intro t h
  unfold ty at h
  cases hb : Nat.ble 100000 t <;> rw [hb] at h
  · simp only [cond_false] at h
    unfold ty0 at h
    split at h
    · cases h
    · exact Try.underlying4
    · cases h
    · cases h
    · cases h
    · cases h
    · cases h
    · cases h
    · cases h
    · cases h
    · cases h
    · cases h
    · cases h
    · cases h
  · cases h
theorem t_int : ∀ t k, ty t = .int k → Try.prog.underlying t = some (.int k) := by
  intro t k h
  unfold ty at h
  cases hb : Nat.ble 100000 t <;> rw [hb] at h
  · simp only [cond_false] at h
    unfold ty0 at h
    split at h
    · cases h; exact Try.underlying3
    · cases h
    · cases h; exact Try.underlying5
    · cases h
    · cases h
    · cases h
    · cases h
    · cases h
    · cases h
    · cases h
    · cases h
    · cases h
    · cases h
    · cases h
  · cases h
theorem t_intS : ∀ t k, ty t = .int k → ∀ n, ∃ x, dset t [.int k n] = some x := by
  intro t k h
  unfold ty at h
  cases hb : Nat.ble 100000 t <;> rw [hb] at h
  · simp only [cond_false] at h
    unfold ty0 at h
    split at h
    · cases h; exact fun n => ⟨n, rfl⟩
    · cases h
    · cases h; exact fun n => ⟨n, rfl⟩
    · cases h
    · cases h
    · cases h
    · cases h
    · cases h
    · cases h
    · cases h
    · cases h
    · cases h
    · cases h
    · cases h
  · cases h
theorem t_intC : ∀ t k, ty t = .int k → ∀ x, ∃ n, dget t x = [.int k n] := by
  intro t k h
  unfold ty at h
  cases hb : Nat.ble 100000 t <;> rw [hb] at h
  · simp only [cond_false] at h
    unfold ty0 at h
    split at h
    · cases h; exact fun x => ⟨x, rfl⟩
    · cases h
    · cases h; exact fun x => ⟨x, rfl⟩
    · cases h
    · cases h
    · cases h
    · cases h
    · cases h
    · cases h
    · cases h
    · cases h
    · cases h
    · cases h
    · cases h
  · cases h
theorem t_ptr : ∀ t e, ty t = .ptr e → Try.prog.underlying t = some (.pointer e) := by
  intro t e h
  unfold ty at h
  cases hb : Nat.ble 100000 t <;> rw [hb] at h
  · simp only [cond_false] at h
    unfold ty0 at h
    split at h
    · cases h
    · cases h
    · cases h
    · cases h
    · cases h
    · cases h
    · cases h
    · cases h
    · cases h
    · cases h
    · cases h
    · cases h
    · cases h; exact Try.underlying100
    · cases h
  · cases h
theorem t_map : ∀ t k e, ty t = .map k e → Try.prog.underlying t = some (.map k e) := by
  intro t k e h
  unfold ty at h
  cases hb : Nat.ble 100000 t <;> rw [hb] at h
  · simp only [cond_false] at h
    unfold ty0 at h
    split at h
    · cases h
    · cases h
    · cases h
    · cases h
    · cases h
    · cases h
    · cases h
    · cases h
    · cases h
    · cases h
    · cases h
    · cases h
    · cases h
    · cases h
  · cases h
theorem t_struct : ∀ t fs, ty t = .struct fs → ∃ fields : Array Field, Try.prog.underlying t = some (.struct fields) ∧ fs = fields.toList.map (fun f => (f.offset, f.type)) ∧ (∀ f ∈ fields.toList, 0 < size f.type ∧ f.name ≠ "_") := by
  intro t fs h
  unfold ty at h
  cases hb : Nat.ble 100000 t <;> rw [hb] at h
  · simp only [cond_false] at h
    unfold ty0 at h
    split at h
    · cases h
    · cases h
    · cases h
    · cases h
    · cases h
    · cases h; exact ⟨_, Try.underlying71, rfl, fchk_ok (by rfl)⟩
    · cases h
    · cases h; exact ⟨_, Try.underlying80, rfl, fchk_ok (by rfl)⟩
    · cases h; exact ⟨_, Try.underlying81, rfl, fchk_ok (by rfl)⟩
    · cases h; exact ⟨_, Try.underlying160, rfl, fchk_ok (by rfl)⟩
    · cases h
    · cases h
    · cases h
    · cases h
  · cases h
theorem t_info : ∀ t, 0 < size t → ∃ i, Try.prog.info? t = some i ∧ i.size = size t ∧ i.bytes = bytes t ∧ ∃ z, i.zero = some z ∧ z.cells.toList = zero t ∧ (Go.Sm.isAgg T t = true → ∃ cs, z = .agg cs) := by
  intro t h
  unfold size at h
  split at h
  · exact ⟨Try.t3, by kernel_rfl, rfl, rfl, _, rfl, rfl, fun h => nomatch (show false = true from h)⟩
  · exact ⟨Try.t4, by kernel_rfl, rfl, rfl, _, rfl, rfl, fun h => nomatch (show false = true from h)⟩
  · exact ⟨Try.t5, by kernel_rfl, rfl, rfl, _, rfl, rfl, fun h => nomatch (show false = true from h)⟩
  · exact ⟨Try.t22, by kernel_rfl, rfl, rfl, _, rfl, rfl, fun h => nomatch (show false = true from h)⟩
  · exact ⟨Try.t41, by kernel_rfl, rfl, rfl, _, rfl, rfl, fun h => nomatch (show false = true from h)⟩
  · exact ⟨Try.t71, by kernel_rfl, rfl, rfl, _, rfl, rfl, fun h => ⟨_, rfl⟩⟩
  · exact ⟨Try.t72, by kernel_rfl, rfl, rfl, _, rfl, rfl, fun h => nomatch (show false = true from h)⟩
  · exact ⟨Try.t80, by kernel_rfl, rfl, rfl, _, rfl, rfl, fun h => ⟨_, rfl⟩⟩
  · exact ⟨Try.t81, by kernel_rfl, rfl, rfl, _, rfl, rfl, fun h => ⟨_, rfl⟩⟩
  · exact ⟨Try.t160, by kernel_rfl, rfl, rfl, _, rfl, rfl, fun h => ⟨_, rfl⟩⟩
  · exact ⟨Try.t188, by kernel_rfl, rfl, rfl, _, rfl, rfl, fun h => ⟨_, rfl⟩⟩
  · exact ⟨Try.t189, by kernel_rfl, rfl, rfl, _, rfl, rfl, fun h => nomatch (show false = true from h)⟩
  · exact absurd h (Nat.lt_irrefl _)
theorem t_agg : ∀ t, 0 < size t → ((match Try.prog.underlying t with | some (.struct _) => true | some (.array _ _) => true | _ => false) = Go.Sm.isAgg T t) := by
  intro t h
  unfold size at h
  split at h
  · rw [Try.underlying3]; rfl
  · rw [Try.underlying4]; rfl
  · rw [Try.underlying5]; rfl
  · rw [Try.underlying22]; rfl
  · rw [Try.underlying41]; rfl
  · rw [Try.underlying71]; rfl
  · rw [Try.underlying72]; rfl
  · rw [Try.underlying80]; rfl
  · rw [Try.underlying81]; rfl
  · rw [Try.underlying160]; rfl
  · rw [Try.underlying188]; rfl
  · rw [Try.underlying189]; rfl
  · exact absurd h (Nat.lt_irrefl _)
theorem t_und : ∀ t, 0 < size t → ∃ d, Try.prog.underlying t = some d := by
  intro t h
  unfold size at h
  split at h
  · exact ⟨_, Try.underlying3⟩
  · exact ⟨_, Try.underlying4⟩
  · exact ⟨_, Try.underlying5⟩
  · exact ⟨_, Try.underlying22⟩
  · exact ⟨_, Try.underlying41⟩
  · exact ⟨_, Try.underlying71⟩
  · exact ⟨_, Try.underlying72⟩
  · exact ⟨_, Try.underlying80⟩
  · exact ⟨_, Try.underlying81⟩
  · exact ⟨_, Try.underlying160⟩
  · exact ⟨_, Try.underlying188⟩
  · exact ⟨_, Try.underlying189⟩
  · exact absurd h (Nat.lt_irrefl _)
theorem t_zv : ∀ t, 0 < size t → Go.Sm.isAgg T t = false → ∃ i z, Try.prog.info? t = some i ∧ i.zero = some z ∧ ∀ cs, z ≠ .agg cs := by
  intro t h
  unfold size at h
  split at h
  · exact fun _ => ⟨Try.t3, .int .i64 0, by kernel_rfl, rfl, fun cs h => nomatch h⟩
  · exact fun _ => ⟨Try.t4, .bool false, by kernel_rfl, rfl, fun cs h => nomatch h⟩
  · exact fun _ => ⟨Try.t5, .int .u8 0, by kernel_rfl, rfl, fun cs h => nomatch h⟩
  · exact fun _ => ⟨Try.t22, .slice none 0 0, by kernel_rfl, rfl, fun cs h => nomatch h⟩
  · exact fun _ => ⟨Try.t41, .slice none 0 0, by kernel_rfl, rfl, fun cs h => nomatch h⟩
  · exact fun h => nomatch (show true = false from h)
  · exact fun _ => ⟨Try.t72, .slice none 0 0, by kernel_rfl, rfl, fun cs h => nomatch h⟩
  · exact fun h => nomatch (show true = false from h)
  · exact fun h => nomatch (show true = false from h)
  · exact fun h => nomatch (show true = false from h)
  · exact fun h => nomatch (show true = false from h)
  · exact fun _ => ⟨Try.t189, .slice none 0 0, by kernel_rfl, rfl, fun cs h => nomatch h⟩
  · exact absurd h (Nat.lt_irrefl _)
theorem t_zero : ∀ t, 0 < size t → (zero t).length = size t ∧ ∀ (j : Nat) (d : D U) (v : Value), (dget t (dflt t))[j]? = some d → (zero t)[j]? = some v → plainD (T := T) d v ∨ ∃ u, d = .arr u [] ∧ v = .slice none 0 0 := by
  intro t h
  have hh : zchk (U := U) (fun t l => isNilL t l) (dget t (dflt t)) (zero t) = true := by
    unfold size at h
    split at h
    · rfl
    · rfl
    · rfl
    · rfl
    · rfl
    · rfl
    · rfl
    · rfl
    · rfl
    · rfl
    · rfl
    · rfl
    · exact absurd h (Nat.lt_irrefl _)
  obtain ⟨h1, h2⟩ := zchk_ok (T := T) hh
  exact ⟨h1.trans (t_len _ _), h2⟩
theorem eqf81 (w : World) (d : Nat) (xs ys : Array Value) : (Op.equalIn (d + 1) 81 (.agg xs) (.agg ys)).run Try.prog w = (Op.eqFields d xs ys (Try.prog.fieldsOf 81).toList).run Try.prog w := by
  have hf : Try.prog.fieldsOf 81 = (match Try.prog.underlying 81 with | some (.struct fs) => fs | _ => #[]) := rfl
  rw [Try.underlying81] at hf
  exact run_equalIn_struct w d 81 _ _ (by rw [hf]; exact Try.underlying81) Try.stoodInHeld81
theorem eqs81 : Try.prog.fieldsOf 81 = (match Try.prog.underlying 81 with | some (.struct fs) => fs | _ => #[]) := rfl
theorem t_eq81 : EqOk Try.prog T 81 := by
  intro w xs ys us vs r hx hy he hl hk hp hq
  obtain ⟨a0, xs0, xse0, hx0⟩ := shaped_int hx
  obtain ⟨a1, xs1, xse1, hx1⟩ := shaped_int hx0
  have xse2 := shaped_nil hx1
  subst xse2 xse1 xse0
  obtain ⟨b0, ys0, yse0, hy0⟩ := shaped_int hy
  obtain ⟨b1, ys1, yse1, hy1⟩ := shaped_int hy0
  have yse2 := shaped_nil hy1
  subst yse2 yse1 yse0
  obtain ⟨u0, us0, ue0, e0, hl0, hp0⟩ := plain_cons hl hp
  obtain ⟨u1, us1, ue1, e1, hl1, hp1⟩ := plain_cons hl0 hp0
  have ue2 := plain_nil hl1
  subst ue2 ue1 ue0
  obtain ⟨v0, vs0, ve0, g0, hk0, hq0⟩ := plain_cons hk hq
  obtain ⟨v1, vs1, ve1, g1, hk1, hq1⟩ := plain_cons hk0 hq0
  have ve2 := plain_nil hk1
  subst ve2 ve1 ve0
  simp only [plainD] at e0 g0 e1 g1
  subst e0 g0 e1 g1
  simp only [eqDs, eqD, Option.some.injEq, if_true] at he
  subst he
  refine ⟨?_, Try.eqGuardType81⟩
  unfold Op.equal Op.maxDepth
  rw [eqf81 w 9999]
  simp [Op.eqFields, part, run_equalIn_int, run_equalIn_bool, run_equalIn_string, ← beq_toListBytes, Sem.run_ite, eqf81, eqs81, Try.underlying3, Try.underlying81, Try.isAgg3, Try.isAgg81, Try.sizeOf81]
  by_cases c0 : a0 = b0 <;> by_cases c1 : a1 = b1 <;> simp [*]
theorem t_eqs : ∀ t, T.ceq t = true → EqOk Try.prog T t := by
  intro t h
  have h : ceq t = true := h
  unfold ceq at h
  skip
  rw [Nat.eq_of_beq_eq_true h]; exact t_eq81
theorem ok : TblOk Try.prog T := { len := t_len, get := t_get, pat := t_pat, slice := t_slice, arr := t_arr, str := t_str, bool := t_bool, int := t_int, intC := t_intC, intS := t_intS, struct := t_struct, ptr := t_ptr, map := t_map, info := t_info, agg := t_agg, zero := t_zero, und := t_und, zv := t_zv, eqs := t_eqs }
end Go.Sm.C8
