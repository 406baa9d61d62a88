import Derived.Test.YtefibegfcfbcjaaEngD
import Derived.Test.YtefibegfcfbcjaaD3Fn
import Derived.Test.YtefibegfcfbcjaaProg
/- The program's types as the evaluator sees them. -/
set_option linter.unusedSimpArgs false
set_option linter.deprecated false
set_option linter.unusedSectionVars false
set_option linter.unusedVariables false
set_option maxRecDepth 100000
open Go Go.Proofs
noncomputable section
namespace Go.Sm.D3
def UI : Nat → (α : Type) × α
  | 3 => ⟨Int, (0 : Int)⟩
  | 4 => ⟨Bool, false⟩
  | 5 => ⟨Int, (0 : Int)⟩
  | 9 => ⟨ByteArray, str []⟩
  | 22 => ⟨List SBill, []⟩
  | 23 => ⟨List Int, []⟩
  | 25 => ⟨SBook, dSBook⟩
  | 29 => ⟨List SBill, []⟩
  | 31 => ⟨SBook, dSBook⟩
  | 77 => ⟨List ByteArray, []⟩
  | 79 => ⟨SBill, dSBill⟩
  | 215 => ⟨SBill, dSBill⟩
  | _ => ⟨Unit, ()⟩
abbrev U (t : Nat) : Type := (UI t).1
def dflt (t : Nat) : U t := (UI t).2
def dget : (t : Nat) → U t → List (D U)
  | 3, x => (fun (x : Int) => ([.int .i64 x] : List (D U))) x
  | 4, x => (fun (x : Bool) => ([.bool x] : List (D U))) x
  | 5, x => (fun (x : Int) => ([.int .u8 x] : List (D U))) x
  | 9, x => (fun (x : ByteArray) => ([.str x] : List (D U))) x
  | 22, x => (fun (x : List SBill) => ([.arr 215 x] : List (D U))) x
  | 23, x => (fun (x : List Int) => ([.arr 3 x] : List (D U))) x
  | 25, x => (fun (x : SBook) => ([.arr 215 x.Bills, .arr 3 x.Freed] : List (D U))) x
  | 29, x => (fun (x : List SBill) => ([.arr 79 x] : List (D U))) x
  | 31, x => (fun (x : SBook) => ([.arr 79 x.Bills, .arr 3 x.Freed] : List (D U))) x
  | 77, x => (fun (x : List ByteArray) => ([.arr 9 x] : List (D U))) x
  | 79, x => (fun (x : SBill) => ([.int .i64 x.Id, .str x.Shipper, .str x.Order, .int .i64 x.Many, .arr 9 x.Held] : List (D U))) x
  | 215, x => (fun (x : SBill) => ([.int .i64 x.Id, .str x.Shipper, .str x.Order, .int .i64 x.Many, .arr 9 x.Held] : List (D U))) x
  | _, _ => []
def dset3 (ds : List (D U)) : Option Int := match ds with
  | [c0] => (intU .i64 c0).bind fun a0 => some (a0)
  | _ => none
theorem get3 {ds : List (D U)} {x : U 3} (h : dset3 ds = some x) : dget 3 x = ds := by
  unfold dset3 at h
  split at h
  · obtain ⟨a0, h0, h⟩ := Option.bind_eq_some_iff.1 h
    cases h
    rw [intU_eq h0]
    rfl
  · cases h
def dset4 (ds : List (D U)) : Option Bool := match ds with
  | [c0] => (boolU c0).bind fun a0 => some (a0)
  | _ => none
theorem get4 {ds : List (D U)} {x : U 4} (h : dset4 ds = some x) : dget 4 x = ds := by
  unfold dset4 at h
  split at h
  · obtain ⟨a0, h0, h⟩ := Option.bind_eq_some_iff.1 h
    cases h
    rw [boolU_eq h0]
    rfl
  · cases h
def dset5 (ds : List (D U)) : Option Int := match ds with
  | [c0] => (intU .u8 c0).bind fun a0 => some (a0)
  | _ => none
theorem get5 {ds : List (D U)} {x : U 5} (h : dset5 ds = some x) : dget 5 x = ds := by
  unfold dset5 at h
  split at h
  · obtain ⟨a0, h0, h⟩ := Option.bind_eq_some_iff.1 h
    cases h
    rw [intU_eq h0]
    rfl
  · cases h
def dset9 (ds : List (D U)) : Option ByteArray := match ds with
  | [c0] => (strU c0).bind fun a0 => some (a0)
  | _ => none
theorem get9 {ds : List (D U)} {x : U 9} (h : dset9 ds = some x) : dget 9 x = ds := by
  unfold dset9 at h
  split at h
  · obtain ⟨a0, h0, h⟩ := Option.bind_eq_some_iff.1 h
    cases h
    rw [strU_eq h0]
    rfl
  · cases h
def dset22 (ds : List (D U)) : Option (List SBill) := match ds with
  | [c0] => (arrU 215 c0).bind fun a0 => some (a0)
  | _ => none
theorem get22 {ds : List (D U)} {x : U 22} (h : dset22 ds = some x) : dget 22 x = ds := by
  unfold dset22 at h
  split at h
  · obtain ⟨a0, h0, h⟩ := Option.bind_eq_some_iff.1 h
    cases h
    rw [arrU_eq h0]
    rfl
  · cases h
def dset23 (ds : List (D U)) : Option (List Int) := match ds with
  | [c0] => (arrU 3 c0).bind fun a0 => some (a0)
  | _ => none
theorem get23 {ds : List (D U)} {x : U 23} (h : dset23 ds = some x) : dget 23 x = ds := by
  unfold dset23 at h
  split at h
  · obtain ⟨a0, h0, h⟩ := Option.bind_eq_some_iff.1 h
    cases h
    rw [arrU_eq h0]
    rfl
  · cases h
def dset25 (ds : List (D U)) : Option SBook := match ds with
  | [c0, c1] => (arrU 215 c0).bind fun a0 => (arrU 3 c1).bind fun a1 => some ((⟨a0, a1⟩ : SBook))
  | _ => none
theorem get25 {ds : List (D U)} {x : U 25} (h : dset25 ds = some x) : dget 25 x = ds := by
  unfold dset25 at h
  split at h
  · obtain ⟨a0, h0, h⟩ := Option.bind_eq_some_iff.1 h
    obtain ⟨a1, h1, h⟩ := Option.bind_eq_some_iff.1 h
    cases h
    rw [arrU_eq h0, arrU_eq h1]
    rfl
  · cases h
def dset29 (ds : List (D U)) : Option (List SBill) := match ds with
  | [c0] => (arrU 79 c0).bind fun a0 => some (a0)
  | _ => none
theorem get29 {ds : List (D U)} {x : U 29} (h : dset29 ds = some x) : dget 29 x = ds := by
  unfold dset29 at h
  split at h
  · obtain ⟨a0, h0, h⟩ := Option.bind_eq_some_iff.1 h
    cases h
    rw [arrU_eq h0]
    rfl
  · cases h
def dset31 (ds : List (D U)) : Option SBook := match ds with
  | [c0, c1] => (arrU 79 c0).bind fun a0 => (arrU 3 c1).bind fun a1 => some ((⟨a0, a1⟩ : SBook))
  | _ => none
theorem get31 {ds : List (D U)} {x : U 31} (h : dset31 ds = some x) : dget 31 x = ds := by
  unfold dset31 at h
  split at h
  · obtain ⟨a0, h0, h⟩ := Option.bind_eq_some_iff.1 h
    obtain ⟨a1, h1, h⟩ := Option.bind_eq_some_iff.1 h
    cases h
    rw [arrU_eq h0, arrU_eq h1]
    rfl
  · cases h
def dset77 (ds : List (D U)) : Option (List ByteArray) := match ds with
  | [c0] => (arrU 9 c0).bind fun a0 => some (a0)
  | _ => none
theorem get77 {ds : List (D U)} {x : U 77} (h : dset77 ds = some x) : dget 77 x = ds := by
  unfold dset77 at h
  split at h
  · obtain ⟨a0, h0, h⟩ := Option.bind_eq_some_iff.1 h
    cases h
    rw [arrU_eq h0]
    rfl
  · cases h
def dset79 (ds : List (D U)) : Option SBill := match ds with
  | [c0, c1, c2, c3, c4] => (intU .i64 c0).bind fun a0 => (strU c1).bind fun a1 => (strU c2).bind fun a2 => (intU .i64 c3).bind fun a3 => (arrU 9 c4).bind fun a4 => some ((⟨a0, a1, a2, a3, a4⟩ : SBill))
  | _ => none
theorem get79 {ds : List (D U)} {x : U 79} (h : dset79 ds = some x) : dget 79 x = ds := by
  unfold dset79 at h
  split at h
  · obtain ⟨a0, h0, h⟩ := Option.bind_eq_some_iff.1 h
    obtain ⟨a1, h1, h⟩ := Option.bind_eq_some_iff.1 h
    obtain ⟨a2, h2, h⟩ := Option.bind_eq_some_iff.1 h
    obtain ⟨a3, h3, h⟩ := Option.bind_eq_some_iff.1 h
    obtain ⟨a4, h4, h⟩ := Option.bind_eq_some_iff.1 h
    cases h
    rw [intU_eq h0, strU_eq h1, strU_eq h2, intU_eq h3, arrU_eq h4]
    rfl
  · cases h
def dset215 (ds : List (D U)) : Option SBill := match ds with
  | [c0, c1, c2, c3, c4] => (intU .i64 c0).bind fun a0 => (strU c1).bind fun a1 => (strU c2).bind fun a2 => (intU .i64 c3).bind fun a3 => (arrU 9 c4).bind fun a4 => some ((⟨a0, a1, a2, a3, a4⟩ : SBill))
  | _ => none
theorem get215 {ds : List (D U)} {x : U 215} (h : dset215 ds = some x) : dget 215 x = ds := by
  unfold dset215 at h
  split at h
  · obtain ⟨a0, h0, h⟩ := Option.bind_eq_some_iff.1 h
    obtain ⟨a1, h1, h⟩ := Option.bind_eq_some_iff.1 h
    obtain ⟨a2, h2, h⟩ := Option.bind_eq_some_iff.1 h
    obtain ⟨a3, h3, h⟩ := Option.bind_eq_some_iff.1 h
    obtain ⟨a4, h4, h⟩ := Option.bind_eq_some_iff.1 h
    cases h
    rw [intU_eq h0, strU_eq h1, strU_eq h2, intU_eq h3, arrU_eq h4]
    rfl
  · cases h
def castU {t t2 : Nat} (h : t2 = t) (x : Option (U t)) : Option (U t2) := h ▸ x
def dset (t : Nat) (ds : List (D U)) : Option (U t) :=
  if h : t = 3 then castU h (dset3 ds) else
  if h : t = 4 then castU h (dset4 ds) else
  if h : t = 5 then castU h (dset5 ds) else
  if h : t = 9 then castU h (dset9 ds) else
  if h : t = 22 then castU h (dset22 ds) else
  if h : t = 23 then castU h (dset23 ds) else
  if h : t = 25 then castU h (dset25 ds) else
  if h : t = 29 then castU h (dset29 ds) else
  if h : t = 31 then castU h (dset31 ds) else
  if h : t = 77 then castU h (dset77 ds) else
  if h : t = 79 then castU h (dset79 ds) else
  if h : t = 215 then castU h (dset215 ds) else
  none
def ty0 : Nat → Ty
  | 3 => .int .i64
  | 4 => .bool
  | 5 => .int .u8
  | 9 => .str
  | 22 => .slice 215
  | 23 => .slice 3
  | 25 => .struct [(0, 22), (1, 23)]
  | 29 => .slice 79
  | 31 => .struct [(0, 29), (1, 23)]
  | 77 => .slice 9
  | 79 => .struct [(0, 3), (1, 9), (2, 9), (3, 3), (4, 77)]
  | 215 => .struct [(0, 3), (1, 9), (2, 9), (3, 3), (4, 77)]
  | 182 => .map 3 4
  | _ => .other
def ty (t : Nat) : Ty := bif Nat.ble 100000 t then .ref (t - 100000) else ty0 t
def size : Nat → Nat
  | 3 => 1
  | 4 => 1
  | 5 => 1
  | 9 => 1
  | 22 => 1
  | 23 => 1
  | 25 => 2
  | 29 => 1
  | 31 => 2
  | 77 => 1
  | 79 => 5
  | 215 => 5
  | _ => 0
def bytes : Nat → Nat
  | 3 => 8
  | 4 => 1
  | 5 => 1
  | 9 => 16
  | 22 => 24
  | 23 => 24
  | 25 => 48
  | 29 => 24
  | 31 => 48
  | 77 => 24
  | 79 => 72
  | 215 => 72
  | _ => 0
def zero : Nat → List Value
  | 3 => [.int .i64 0]
  | 4 => [.bool false]
  | 5 => [.int .u8 0]
  | 9 => [.string ⟨#[]⟩]
  | 22 => [.slice none 0 0]
  | 23 => [.slice none 0 0]
  | 25 => [.slice none 0 0, .slice none 0 0]
  | 29 => [.slice none 0 0]
  | 31 => [.slice none 0 0, .slice none 0 0]
  | 77 => [.slice none 0 0]
  | 79 => [.int .i64 0, .string ⟨#[]⟩, .string ⟨#[]⟩, .int .i64 0, .slice none 0 0]
  | 215 => [.int .i64 0, .string ⟨#[]⟩, .string ⟨#[]⟩, .int .i64 0, .slice none 0 0]
  | _ => []
def ceq (t : Nat) : Bool := false
def sgs : List (Nat × Sig) := [(3, ⟨[25, 3], [.ro, .ro], .own⟩),
  (14, ⟨[25, 3], [.ro, .ro], .own⟩),
  (15, ⟨[31, 3], [.ro, .ro], .own⟩),
  (16, ⟨[25], [.ro], .own⟩),
  (17, ⟨[31, 3], [.ro, .ro], .own⟩),
  (18, ⟨[31, 31], [.ro, .ro], .own⟩),
  (31, ⟨[23, 23], [.ro, .ro], .own⟩),
  (44, ⟨[31], [.ro], .own⟩),
  (82, ⟨[22, 3], [.ro, .ro], .own⟩),
  (83, ⟨[23, 3], [.ro, .ro], .own⟩),
  (84, ⟨[31, 3], [.ro, .ro], .own⟩),
  (85, ⟨[31], [.ro], .own⟩),
  (86, ⟨[23, 3], [.ro, .ro], .own⟩),
  (87, ⟨[22], [.ro], .own⟩),
  (88, ⟨[23], [.ro], .own⟩),
  (89, ⟨[31, 3], [.ro, .ro], .own⟩),
  (90, ⟨[23, 3], [.ro, .ro], .own⟩),
  (91, ⟨[29, 29], [.ro, .ro], .own⟩),
  (101, ⟨[3, 3, 3], [.ro, .ro, .ro], .own⟩),
  (102, ⟨[3], [.ro], .own⟩),
  (115, ⟨[9], [.ro], .own⟩),
  (116, ⟨[9], [.ro], .own⟩),
  (121, ⟨[77, 169], [.ro, .ro], .own⟩),
  (130, ⟨[9], [.ro], .own⟩),
  (173, ⟨[215, 3], [.ro, .ro], .own⟩),
  (174, ⟨[3, 3, 3], [.ro, .ro, .ro], .own⟩),
  (175, ⟨[9], [.ro], .own⟩),
  (176, ⟨[215], [.ro], .own⟩),
  (177, ⟨[29, 218], [.ro, .ro], .own⟩),
  (178, ⟨[79, 100003], [.ro, .ro], .own⟩),
  (179, ⟨[23, 3], [.ro, .ro], .own⟩),
  (180, ⟨[79, 79], [.ro, .ro], .own⟩),
  (189, ⟨[77, 169], [.ro, .ro], .own⟩),
  (214, ⟨[77, 3], [.ro, .ro], .own⟩),
  (215, ⟨[77], [.ro], .own⟩),
  (216, ⟨[77, 77], [.ro, .ro], .own⟩)]
def lookS (f : Nat) : List (Nat × Sig) → Sig
  | [] => ⟨[], [], .own⟩
  | (g, s) :: r => bif Nat.beq f g then s else lookS f r
def sg (f : Nat) : Sig := lookS f sgs
def cap (f : Nat) : List Nat := bif Nat.beq f 178 then [100003] else []
def T : Tbl := { U := U, ty := ty, size := size, bytes := bytes, zero := zero, dget := dget, dset := dset, dflt := dflt, ceq := ceq, keq := fun _ _ _ => false, sg := sg, cap := cap }
theorem t_len : ∀ t x, (dget t x).length = size t := by
  intro t x
  unfold dget size
  split
  · rfl
  · rfl
  · rfl
  · rfl
  · rfl
  · rfl
  · rfl
  · rfl
  · rfl
  · rfl
  · rfl
  · rfl
  · rename_i h
    split <;> first | rfl | exact absurd rfl (h _) | simp_all
theorem t_get : ∀ t ds x, dset t ds = some x → dget t x = ds := by
  intro t ds x h
  by_cases e3 : t = 3
  · subst e3; exact get3 (show dset3 ds = some x from h)
  by_cases e4 : t = 4
  · subst e4; exact get4 (show dset4 ds = some x from h)
  by_cases e5 : t = 5
  · subst e5; exact get5 (show dset5 ds = some x from h)
  by_cases e9 : t = 9
  · subst e9; exact get9 (show dset9 ds = some x from h)
  by_cases e22 : t = 22
  · subst e22; exact get22 (show dset22 ds = some x from h)
  by_cases e23 : t = 23
  · subst e23; exact get23 (show dset23 ds = some x from h)
  by_cases e25 : t = 25
  · subst e25; exact get25 (show dset25 ds = some x from h)
  by_cases e29 : t = 29
  · subst e29; exact get29 (show dset29 ds = some x from h)
  by_cases e31 : t = 31
  · subst e31; exact get31 (show dset31 ds = some x from h)
  by_cases e77 : t = 77
  · subst e77; exact get77 (show dset77 ds = some x from h)
  by_cases e79 : t = 79
  · subst e79; exact get79 (show dset79 ds = some x from h)
  by_cases e215 : t = 215
  · subst e215; exact get215 (show dset215 ds = some x from h)
  unfold dset at h
  rw [dif_neg e3, dif_neg e4, dif_neg e5, dif_neg e9, dif_neg e22, dif_neg e23, dif_neg e25, dif_neg e29, dif_neg e31, dif_neg e77, dif_neg e79, dif_neg e215] at h
  cases h
theorem t_pat : ∀ t x, (dget t x).map D.isArr = (dget t (dflt t)).map D.isArr := by
  intro t x
  unfold dget
  split
  · rfl
  · rfl
  · rfl
  · rfl
  · rfl
  · rfl
  · rfl
  · rfl
  · rfl
  · rfl
  · rfl
  · rfl
  · rename_i h
    split <;> first | rfl | exact absurd rfl (h _) | simp_all
theorem t_slice : ∀ t e, ty t = .slice e → Try.prog.underlying t = some (.slice e) := by
  intro t e h
  unfold ty at h
  cases hb : Nat.ble 100000 t <;> rw [hb] at h
  · simp only [cond_false] at h
    unfold ty0 at h
    split at h
    · cases h
    · cases h
    · cases h
    · cases h
    · cases h; exact Try.underlying22
    · cases h; exact Try.underlying23
    · cases h
    · cases h; exact Try.underlying29
    · cases h
    · cases h; exact Try.underlying77
    · cases h
    · cases h
    · cases h
    · cases h
  · cases h
theorem t_arr : ∀ t n e, ty t = .arr n e → Try.prog.underlying t = some (.array n e) := by
  intro t n e h
  unfold ty at h
  cases hb : Nat.ble 100000 t <;> rw [hb] at h
  · simp only [cond_false] at h
    unfold ty0 at h
    split at h
    · cases h
    · cases h
    · cases h
    · cases h
    · cases h
    · cases h
    · cases h
    · cases h
    · cases h
    · cases h
    · cases h
    · cases h
    · cases h
    · cases h
  · cases h
theorem t_str : ∀ t, ty t = .str → Try.prog.underlying t = some .string := by
  intro t h
  unfold ty at h
  cases hb : Nat.ble 100000 t <;> rw [hb] at h
  · simp only [cond_false] at h
    unfold ty0 at h
    split at h
    · cases h
    · cases h
    · cases h
    · exact Try.underlying9
    · cases h
    · cases h
    · cases h
    · cases h
    · cases h
    · cases h
    · cases h
    · cases h
    · cases h
    · cases h
  · cases h
theorem t_bool : ∀ t, ty t = .bool → Try.prog.underlying t = some .bool := by
  intro t h
  unfold ty at h
  cases hb : Nat.ble 100000 t <;> rw [hb] at h
  · simp only [cond_false] at h
    unfold ty0 at h
    split at h
    · cases h
    · exact Try.underlying4
    · cases h
    · cases h
    · cases h
    · cases h
    · cases h
    · cases h
    · cases h
    · cases h
    · cases h
    · cases h
    · cases h
    · cases h
  · cases h
theorem t_int : ∀ t k, ty t = .int k → Try.prog.underlying t = some (.int k) := by
  intro t k h
  unfold ty at h
  cases hb : Nat.ble 100000 t <;> rw [hb] at h
  · simp only [cond_false] at h
    unfold ty0 at h
    split at h
    · cases h; exact Try.underlying3
    · cases h
    · cases h; exact Try.underlying5
    · cases h
    · cases h
    · cases h
    · cases h
    · cases h
    · cases h
    · cases h
    · cases h
    · cases h
    · cases h
    · cases h
  · cases h
theorem t_intC : ∀ t k, ty t = .int k → ∀ x, ∃ n, dget t x = [.int k n] := by
  intro t k h
  unfold ty at h
  cases hb : Nat.ble 100000 t <;> rw [hb] at h
  · simp only [cond_false] at h
    unfold ty0 at h
    split at h
    · cases h; exact fun x => ⟨x, rfl⟩
    · cases h
    · cases h; exact fun x => ⟨x, rfl⟩
    · cases h
    · cases h
    · cases h
    · cases h
    · cases h
    · cases h
    · cases h
    · cases h
    · cases h
    · cases h
    · cases h
  · cases h
theorem t_ptr : ∀ t e, ty t = .ptr e → Try.prog.underlying t = some (.pointer e) := by
  intro t e h
  unfold ty at h
  cases hb : Nat.ble 100000 t <;> rw [hb] at h
  · simp only [cond_false] at h
    unfold ty0 at h
    split at h
    · cases h
    · cases h
    · cases h
    · cases h
    · cases h
    · cases h
    · cases h
    · cases h
    · cases h
    · cases h
    · cases h
    · cases h
    · cases h
    · cases h
  · cases h
theorem t_map : ∀ t k e, ty t = .map k e → Try.prog.underlying t = some (.map k e) := by
  intro t k e h
  unfold ty at h
  cases hb : Nat.ble 100000 t <;> rw [hb] at h
  · simp only [cond_false] at h
    unfold ty0 at h
    split at h
    · cases h
    · cases h
    · cases h
    · cases h
    · cases h
    · cases h
    · cases h
    · cases h
    · cases h
    · cases h
    · cases h
    · cases h
    · cases h; exact Try.underlying182
    · cases h
  · cases h
theorem t_struct : ∀ t fs, ty t = .struct fs → ∃ fields : Array Field, Try.prog.underlying t = some (.struct fields) ∧ fs = fields.toList.map (fun f => (f.offset, f.type)) ∧ (∀ f ∈ fields.toList, 0 < size f.type ∧ f.name ≠ "_") := by
  intro t fs h
  unfold ty at h
  cases hb : Nat.ble 100000 t <;> rw [hb] at h
  · simp only [cond_false] at h
    unfold ty0 at h
    split at h
    · cases h
    · cases h
    · cases h
    · cases h
    · cases h
    · cases h
    · cases h; exact ⟨_, Try.underlying25, rfl, fchk_ok (by rfl)⟩
    · cases h
    · cases h; exact ⟨_, Try.underlying31, rfl, fchk_ok (by rfl)⟩
    · cases h
    · cases h; exact ⟨_, Try.underlying79, rfl, fchk_ok (by rfl)⟩
    · cases h; exact ⟨_, Try.underlying215, rfl, fchk_ok (by rfl)⟩
    · cases h
    · cases h
  · cases h
theorem t_info : ∀ t, 0 < size t → ∃ i, Try.prog.info? t = some i ∧ i.size = size t ∧ i.bytes = bytes t ∧ ∃ z, i.zero = some z ∧ z.cells.toList = zero t ∧ (Go.Sm.isAgg T t = true → ∃ cs, z = .agg cs) := by
  intro t h
  unfold size at h
  split at h
  · exact ⟨Try.t3, by kernel_rfl, rfl, rfl, _, rfl, rfl, fun h => nomatch (show false = true from h)⟩
  · exact ⟨Try.t4, by kernel_rfl, rfl, rfl, _, rfl, rfl, fun h => nomatch (show false = true from h)⟩
  · exact ⟨Try.t5, by kernel_rfl, rfl, rfl, _, rfl, rfl, fun h => nomatch (show false = true from h)⟩
  · exact ⟨Try.t9, by kernel_rfl, rfl, rfl, _, rfl, rfl, fun h => nomatch (show false = true from h)⟩
  · exact ⟨Try.t22, by kernel_rfl, rfl, rfl, _, rfl, rfl, fun h => nomatch (show false = true from h)⟩
  · exact ⟨Try.t23, by kernel_rfl, rfl, rfl, _, rfl, rfl, fun h => nomatch (show false = true from h)⟩
  · exact ⟨Try.t25, by kernel_rfl, rfl, rfl, _, rfl, rfl, fun h => ⟨_, rfl⟩⟩
  · exact ⟨Try.t29, by kernel_rfl, rfl, rfl, _, rfl, rfl, fun h => nomatch (show false = true from h)⟩
  · exact ⟨Try.t31, by kernel_rfl, rfl, rfl, _, rfl, rfl, fun h => ⟨_, rfl⟩⟩
  · exact ⟨Try.t77, by kernel_rfl, rfl, rfl, _, rfl, rfl, fun h => nomatch (show false = true from h)⟩
  · exact ⟨Try.t79, by kernel_rfl, rfl, rfl, _, rfl, rfl, fun h => ⟨_, rfl⟩⟩
  · exact ⟨Try.t215, by kernel_rfl, rfl, rfl, _, rfl, rfl, fun h => ⟨_, rfl⟩⟩
  · exact absurd h (Nat.lt_irrefl _)
theorem t_agg : ∀ t, 0 < size t → ((match Try.prog.underlying t with | some (.struct _) => true | some (.array _ _) => true | _ => false) = Go.Sm.isAgg T t) := by
  intro t h
  unfold size at h
  split at h
  · rw [Try.underlying3]; rfl
  · rw [Try.underlying4]; rfl
  · rw [Try.underlying5]; rfl
  · rw [Try.underlying9]; rfl
  · rw [Try.underlying22]; rfl
  · rw [Try.underlying23]; rfl
  · rw [Try.underlying25]; rfl
  · rw [Try.underlying29]; rfl
  · rw [Try.underlying31]; rfl
  · rw [Try.underlying77]; rfl
  · rw [Try.underlying79]; rfl
  · rw [Try.underlying215]; rfl
  · exact absurd h (Nat.lt_irrefl _)
theorem t_und : ∀ t, 0 < size t → ∃ d, Try.prog.underlying t = some d := by
  intro t h
  unfold size at h
  split at h
  · exact ⟨_, Try.underlying3⟩
  · exact ⟨_, Try.underlying4⟩
  · exact ⟨_, Try.underlying5⟩
  · exact ⟨_, Try.underlying9⟩
  · exact ⟨_, Try.underlying22⟩
  · exact ⟨_, Try.underlying23⟩
  · exact ⟨_, Try.underlying25⟩
  · exact ⟨_, Try.underlying29⟩
  · exact ⟨_, Try.underlying31⟩
  · exact ⟨_, Try.underlying77⟩
  · exact ⟨_, Try.underlying79⟩
  · exact ⟨_, Try.underlying215⟩
  · exact absurd h (Nat.lt_irrefl _)
theorem t_zv : ∀ t, 0 < size t → Go.Sm.isAgg T t = false → ∃ i z, Try.prog.info? t = some i ∧ i.zero = some z ∧ ∀ cs, z ≠ .agg cs := by
  intro t h
  unfold size at h
  split at h
  · exact fun _ => ⟨Try.t3, .int .i64 0, by kernel_rfl, rfl, fun cs h => nomatch h⟩
  · exact fun _ => ⟨Try.t4, .bool false, by kernel_rfl, rfl, fun cs h => nomatch h⟩
  · exact fun _ => ⟨Try.t5, .int .u8 0, by kernel_rfl, rfl, fun cs h => nomatch h⟩
  · exact fun _ => ⟨Try.t9, .string ⟨#[]⟩, by kernel_rfl, rfl, fun cs h => nomatch h⟩
  · exact fun _ => ⟨Try.t22, .slice none 0 0, by kernel_rfl, rfl, fun cs h => nomatch h⟩
  · exact fun _ => ⟨Try.t23, .slice none 0 0, by kernel_rfl, rfl, fun cs h => nomatch h⟩
  · exact fun h => nomatch (show true = false from h)
  · exact fun _ => ⟨Try.t29, .slice none 0 0, by kernel_rfl, rfl, fun cs h => nomatch h⟩
  · exact fun h => nomatch (show true = false from h)
  · exact fun _ => ⟨Try.t77, .slice none 0 0, by kernel_rfl, rfl, fun cs h => nomatch h⟩
  · exact fun h => nomatch (show true = false from h)
  · exact fun h => nomatch (show true = false from h)
  · exact absurd h (Nat.lt_irrefl _)
theorem t_zero : ∀ t, 0 < size t → (zero t).length = size t ∧ ∀ (j : Nat) (d : D U) (v : Value), (dget t (dflt t))[j]? = some d → (zero t)[j]? = some v → plainD (T := T) d v ∨ ∃ u, d = .arr u [] ∧ v = .slice none 0 0 := by
  intro t h
  have hh : zchk (U := U) (fun t l => isNilL t l) (dget t (dflt t)) (zero t) = true := by
    unfold size at h
    split at h
    · rfl
    · rfl
    · rfl
    · rfl
    · rfl
    · rfl
    · rfl
    · rfl
    · rfl
    · rfl
    · rfl
    · rfl
    · exact absurd h (Nat.lt_irrefl _)
  obtain ⟨h1, h2⟩ := zchk_ok (T := T) hh
  exact ⟨h1.trans (t_len _ _), h2⟩
theorem t_eqs : ∀ t, T.ceq t = true → EqOk Try.prog T t := by
  intro t h
  have h : ceq t = true := h
  unfold ceq at h
  cases h
theorem ok : TblOk Try.prog T := { len := t_len, get := t_get, pat := t_pat, slice := t_slice, arr := t_arr, str := t_str, bool := t_bool, int := t_int, intC := t_intC, struct := t_struct, ptr := t_ptr, map := t_map, info := t_info, agg := t_agg, zero := t_zero, und := t_und, zv := t_zv, eqs := t_eqs }
end Go.Sm.D3
