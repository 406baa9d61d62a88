import Derived.Test.YtmefinakmgnbpaaEngD
import Derived.Test.YtmefinakmgnbpaaF3Fn
import Derived.Test.YtmefinakmgnbpaaProg
/- The program's types as the evaluator sees them. -/
set_option linter.unusedSimpArgs false
set_option linter.deprecated false
set_option linter.unusedSectionVars false
set_option linter.unusedVariables false
set_option maxRecDepth 100000
open Go Go.Proofs
noncomputable section
namespace Go.Sm.F3
def UI : Nat → (α : Type) × α
  | 3 => ⟨Int, (0 : Int)⟩
  | 4 => ⟨Bool, false⟩
  | 5 => ⟨Int, (0 : Int)⟩
  | 22 => ⟨List Int, []⟩
  | 24 => ⟨List (List Int), []⟩
  | 26 => ⟨SYard, dSYard⟩
  | 27 => ⟨List SYardOp, []⟩
  | 30 => ⟨List Int, []⟩
  | 33 => ⟨List SRadio, []⟩
  | 37 => ⟨SRadio, dSRadio⟩
  | 75 => ⟨SYardOp, dSYardOp⟩
  | 120 => ⟨Sl1Cur, dSl1Cur⟩
  | _ => ⟨Unit, ()⟩
abbrev U (t : Nat) : Type := (UI t).1
def dflt (t : Nat) : U t := (UI t).2
def dget : (t : Nat) → U t → List (D U)
  | 3, x => (fun (x : Int) => ([.int .i64 x] : List (D U))) x
  | 4, x => (fun (x : Bool) => ([.bool x] : List (D U))) x
  | 5, x => (fun (x : Int) => ([.int .u8 x] : List (D U))) x
  | 22, x => (fun (x : List Int) => ([.arr 5 x] : List (D U))) x
  | 24, x => (fun (x : List (List Int)) => ([.arr 30 x] : List (D U))) x
  | 26, x => (fun (x : SYard) => ([.int .i64 x.High, .arr 30 x.Stacks] : List (D U))) x
  | 27, x => (fun (x : List SYardOp) => ([.arr 75 x] : List (D U))) x
  | 30, x => (fun (x : List Int) => ([.arr 3 x] : List (D U))) x
  | 33, x => (fun (x : List SRadio) => ([.arr 37 x] : List (D U))) x
  | 37, x => (fun (x : SRadio) => ([.int .i64 x.Id, .int .i64 x.Slot, .arr 3 x.Hears] : List (D U))) x
  | 75, x => (fun (x : SYardOp) => ([.int .i64 x.Kind, .int .i64 x.Box, .int .i64 x.Stack] : List (D U))) x
  | 120, x => (fun (x : Sl1Cur) => ([.arr 5 x.b, .int .i64 x.i, .int .i64 x.h] : List (D U))) x
  | _, _ => []
def dset3 (ds : List (D U)) : Option Int := match ds with
  | [c0] => (intU .i64 c0).bind fun a0 => some (a0)
  | _ => none
theorem get3 {ds : List (D U)} {x : U 3} (h : dset3 ds = some x) : dget 3 x = ds := by
  unfold dset3 at h
  split at h
  · obtain ⟨a0, h0, h⟩ := Option.bind_eq_some_iff.1 h
    cases h
    rw [intU_eq h0]
    rfl
  · cases h
def dset4 (ds : List (D U)) : Option Bool := match ds with
  | [c0] => (boolU c0).bind fun a0 => some (a0)
  | _ => none
theorem get4 {ds : List (D U)} {x : U 4} (h : dset4 ds = some x) : dget 4 x = ds := by
  unfold dset4 at h
  split at h
  · obtain ⟨a0, h0, h⟩ := Option.bind_eq_some_iff.1 h
    cases h
    rw [boolU_eq h0]
    rfl
  · cases h
def dset5 (ds : List (D U)) : Option Int := match ds with
  | [c0] => (intU .u8 c0).bind fun a0 => some (a0)
  | _ => none
theorem get5 {ds : List (D U)} {x : U 5} (h : dset5 ds = some x) : dget 5 x = ds := by
  unfold dset5 at h
  split at h
  · obtain ⟨a0, h0, h⟩ := Option.bind_eq_some_iff.1 h
    cases h
    rw [intU_eq h0]
    rfl
  · cases h
def dset22 (ds : List (D U)) : Option (List Int) := match ds with
  | [c0] => (arrU 5 c0).bind fun a0 => some (a0)
  | _ => none
theorem get22 {ds : List (D U)} {x : U 22} (h : dset22 ds = some x) : dget 22 x = ds := by
  unfold dset22 at h
  split at h
  · obtain ⟨a0, h0, h⟩ := Option.bind_eq_some_iff.1 h
    cases h
    rw [arrU_eq h0]
    rfl
  · cases h
def dset24 (ds : List (D U)) : Option (List (List Int)) := match ds with
  | [c0] => (arrU 30 c0).bind fun a0 => some (a0)
  | _ => none
theorem get24 {ds : List (D U)} {x : U 24} (h : dset24 ds = some x) : dget 24 x = ds := by
  unfold dset24 at h
  split at h
  · obtain ⟨a0, h0, h⟩ := Option.bind_eq_some_iff.1 h
    cases h
    rw [arrU_eq h0]
    rfl
  · cases h
def dset26 (ds : List (D U)) : Option SYard := match ds with
  | [c0, c1] => (intU .i64 c0).bind fun a0 => (arrU 30 c1).bind fun a1 => some ((⟨a0, a1⟩ : SYard))
  | _ => none
theorem get26 {ds : List (D U)} {x : U 26} (h : dset26 ds = some x) : dget 26 x = ds := by
  unfold dset26 at h
  split at h
  · obtain ⟨a0, h0, h⟩ := Option.bind_eq_some_iff.1 h
    obtain ⟨a1, h1, h⟩ := Option.bind_eq_some_iff.1 h
    cases h
    rw [intU_eq h0, arrU_eq h1]
    rfl
  · cases h
def dset27 (ds : List (D U)) : Option (List SYardOp) := match ds with
  | [c0] => (arrU 75 c0).bind fun a0 => some (a0)
  | _ => none
theorem get27 {ds : List (D U)} {x : U 27} (h : dset27 ds = some x) : dget 27 x = ds := by
  unfold dset27 at h
  split at h
  · obtain ⟨a0, h0, h⟩ := Option.bind_eq_some_iff.1 h
    cases h
    rw [arrU_eq h0]
    rfl
  · cases h
def dset30 (ds : List (D U)) : Option (List Int) := match ds with
  | [c0] => (arrU 3 c0).bind fun a0 => some (a0)
  | _ => none
theorem get30 {ds : List (D U)} {x : U 30} (h : dset30 ds = some x) : dget 30 x = ds := by
  unfold dset30 at h
  split at h
  · obtain ⟨a0, h0, h⟩ := Option.bind_eq_some_iff.1 h
    cases h
    rw [arrU_eq h0]
    rfl
  · cases h
def dset33 (ds : List (D U)) : Option (List SRadio) := match ds with
  | [c0] => (arrU 37 c0).bind fun a0 => some (a0)
  | _ => none
theorem get33 {ds : List (D U)} {x : U 33} (h : dset33 ds = some x) : dget 33 x = ds := by
  unfold dset33 at h
  split at h
  · obtain ⟨a0, h0, h⟩ := Option.bind_eq_some_iff.1 h
    cases h
    rw [arrU_eq h0]
    rfl
  · cases h
def dset37 (ds : List (D U)) : Option SRadio := match ds with
  | [c0, c1, c2] => (intU .i64 c0).bind fun a0 => (intU .i64 c1).bind fun a1 => (arrU 3 c2).bind fun a2 => some ((⟨a0, a1, a2⟩ : SRadio))
  | _ => none
theorem get37 {ds : List (D U)} {x : U 37} (h : dset37 ds = some x) : dget 37 x = ds := by
  unfold dset37 at h
  split at h
  · obtain ⟨a0, h0, h⟩ := Option.bind_eq_some_iff.1 h
    obtain ⟨a1, h1, h⟩ := Option.bind_eq_some_iff.1 h
    obtain ⟨a2, h2, h⟩ := Option.bind_eq_some_iff.1 h
    cases h
    rw [intU_eq h0, intU_eq h1, arrU_eq h2]
    rfl
  · cases h
def dset75 (ds : List (D U)) : Option SYardOp := match ds with
  | [c0, c1, c2] => (intU .i64 c0).bind fun a0 => (intU .i64 c1).bind fun a1 => (intU .i64 c2).bind fun a2 => some ((⟨a0, a1, a2⟩ : SYardOp))
  | _ => none
theorem get75 {ds : List (D U)} {x : U 75} (h : dset75 ds = some x) : dget 75 x = ds := by
  unfold dset75 at h
  split at h
  · obtain ⟨a0, h0, h⟩ := Option.bind_eq_some_iff.1 h
    obtain ⟨a1, h1, h⟩ := Option.bind_eq_some_iff.1 h
    obtain ⟨a2, h2, h⟩ := Option.bind_eq_some_iff.1 h
    cases h
    rw [intU_eq h0, intU_eq h1, intU_eq h2]
    rfl
  · cases h
def dset120 (ds : List (D U)) : Option Sl1Cur := match ds with
  | [c0, c1, c2] => (arrU 5 c0).bind fun a0 => (intU .i64 c1).bind fun a1 => (intU .i64 c2).bind fun a2 => some ((⟨a0, a1, a2⟩ : Sl1Cur))
  | _ => none
theorem get120 {ds : List (D U)} {x : U 120} (h : dset120 ds = some x) : dget 120 x = ds := by
  unfold dset120 at h
  split at h
  · obtain ⟨a0, h0, h⟩ := Option.bind_eq_some_iff.1 h
    obtain ⟨a1, h1, h⟩ := Option.bind_eq_some_iff.1 h
    obtain ⟨a2, h2, h⟩ := Option.bind_eq_some_iff.1 h
    cases h
    rw [arrU_eq h0, intU_eq h1, intU_eq h2]
    rfl
  · cases h
def castU {t t2 : Nat} (h : t2 = t) (x : Option (U t)) : Option (U t2) := h ▸ x
def dset (t : Nat) (ds : List (D U)) : Option (U t) :=
  if h : t = 3 then castU h (dset3 ds) else
  if h : t = 4 then castU h (dset4 ds) else
  if h : t = 5 then castU h (dset5 ds) else
  if h : t = 22 then castU h (dset22 ds) else
  if h : t = 24 then castU h (dset24 ds) else
  if h : t = 26 then castU h (dset26 ds) else
  if h : t = 27 then castU h (dset27 ds) else
  if h : t = 30 then castU h (dset30 ds) else
  if h : t = 33 then castU h (dset33 ds) else
  if h : t = 37 then castU h (dset37 ds) else
  if h : t = 75 then castU h (dset75 ds) else
  if h : t = 120 then castU h (dset120 ds) else
  none
def ty0 : Nat → Ty
  | 3 => .int .i64
  | 4 => .bool
  | 5 => .int .u8
  | 22 => .slice 5
  | 24 => .slice 30
  | 26 => .struct [(0, 3), (1, 24)]
  | 27 => .slice 75
  | 30 => .slice 3
  | 33 => .slice 37
  | 37 => .struct [(0, 3), (1, 3), (2, 30)]
  | 75 => .struct [(0, 3), (1, 3), (2, 3)]
  | 120 => .struct [(0, 22), (1, 3), (2, 3)]
  | 70 => .ptr 120
  | 145 => .map 3 4
  | _ => .other
def ty (t : Nat) : Ty := bif Nat.ble 100000 t then .ref (t - 100000) else ty0 t
def size : Nat → Nat
  | 3 => 1
  | 4 => 1
  | 5 => 1
  | 22 => 1
  | 24 => 1
  | 26 => 2
  | 27 => 1
  | 30 => 1
  | 33 => 1
  | 37 => 3
  | 75 => 3
  | 120 => 3
  | _ => 0
def bytes : Nat → Nat
  | 3 => 8
  | 4 => 1
  | 5 => 1
  | 22 => 24
  | 24 => 24
  | 26 => 32
  | 27 => 24
  | 30 => 24
  | 33 => 24
  | 37 => 40
  | 75 => 24
  | 120 => 40
  | _ => 0
def zero : Nat → List Value
  | 3 => [.int .i64 0]
  | 4 => [.bool false]
  | 5 => [.int .u8 0]
  | 22 => [.slice none 0 0]
  | 24 => [.slice none 0 0]
  | 26 => [.int .i64 0, .slice none 0 0]
  | 27 => [.slice none 0 0]
  | 30 => [.slice none 0 0]
  | 33 => [.slice none 0 0]
  | 37 => [.int .i64 0, .int .i64 0, .slice none 0 0]
  | 75 => [.int .i64 0, .int .i64 0, .int .i64 0]
  | 120 => [.slice none 0 0, .int .i64 0, .int .i64 0]
  | _ => []
def ceq (t : Nat) : Bool := false
def sgs : List (Nat × Sig) := [(3, ⟨[22], [.ro], .own⟩),
  (6, ⟨[22], [.ro], .own⟩),
  (7, ⟨[22], [.ro], .own⟩),
  (8, ⟨[26, 27], [.ro, .ro], .own⟩),
  (9, ⟨[22], [.ro], .own⟩),
  (10, ⟨[33, 30], [.ro, .ro], .own⟩),
  (28, ⟨[22], [.ro], .shal⟩),
  (29, ⟨[70, 3, 3], [.rwv, .ro, .ro], .own⟩),
  (30, ⟨[70, 3], [.rwv, .ro], .own⟩),
  (31, ⟨[70], [.rwv], .own⟩),
  (32, ⟨[26], [.ro], .own⟩),
  (33, ⟨[26, 75], [.ro, .ro], .own⟩),
  (34, ⟨[30], [.ro], .own⟩),
  (35, ⟨[70], [.rwv], .own⟩),
  (36, ⟨[70, 3], [.rwv, .ro], .own⟩),
  (37, ⟨[33], [.ro], .own⟩),
  (38, ⟨[30, 85], [.ro, .ro], .own⟩),
  (39, ⟨[3], [.ro], .own⟩),
  (40, ⟨[33], [.ro], .shal⟩),
  (41, ⟨[33], [.ro], .own⟩),
  (42, ⟨[33, 3, 3], [.ro, .ro, .ro], .own⟩),
  (69, ⟨[3, 3, 3], [.ro, .ro, .ro], .own⟩),
  (79, ⟨[70], [.rwv], .own⟩),
  (80, ⟨[70, 30], [.rwv, .ro], .own⟩),
  (81, ⟨[24], [.ro], .shal⟩),
  (82, ⟨[26], [.ro], .own⟩),
  (83, ⟨[3], [.ro], .own⟩),
  (84, ⟨[26, 3], [.ro, .ro], .own⟩),
  (85, ⟨[26, 3, 3], [.rws, .ro, .ro], .own⟩),
  (86, ⟨[70, 3], [.rwv, .ro], .own⟩),
  (87, ⟨[3], [.ro], .own⟩),
  (88, ⟨[3], [.ro], .own⟩),
  (89, ⟨[30, 3], [.ro, .ro], .own⟩),
  (90, ⟨[30, 85], [.ro, .ro], .own⟩),
  (91, ⟨[3, 100033, 100037], [.ro, .ro, .ro], .own⟩),
  (92, ⟨[3, 100033, 100003], [.ro, .ro, .ro], .own⟩),
  (114, ⟨[30, 3], [.ro, .ro], .own⟩)]
def lookS (f : Nat) : List (Nat × Sig) → Sig
  | [] => ⟨[], [], .own⟩
  | (g, s) :: r => bif Nat.beq f g then s else lookS f r
def sg (f : Nat) : Sig := lookS f sgs
def cap (f : Nat) : List Nat := bif Nat.beq f 91 then [100033, 100037] else bif Nat.beq f 92 then [100033, 100003] else []
def fopt (t : Nat) (x : U t) : List (Bool × Nat × List ((u : Nat) × U u)) := []
def fty (f : Nat) : Nat := 0
def fmk (f : Nat) (cs : List ((u : Nat) × U u)) : Option (U (fty f)) := none
theorem t_fmk : ∀ f cs x, fmk f cs = some x → fpick (fopt (fty f) x) = some (f, cs) := fun f cs x h => nomatch h
def T : Tbl := { U := U, ty := ty, size := size, bytes := bytes, zero := zero, dget := dget, dset := dset, dflt := dflt, ceq := ceq, keq := fun _ _ _ => false, sg := sg, cap := cap, fopt := fopt, fty := fty, fmk := fun f cs => optP (fmk f cs) fun x h => t_fmk f cs x h }
theorem t_len : ∀ t x, (dget t x).length = size t := by
  intro t x
  unfold dget size
  split
  · rfl
  · rfl
  · rfl
  · rfl
  · rfl
  · rfl
  · rfl
  · rfl
  · rfl
  · rfl
  · rfl
  · rfl
  · rename_i h
    split <;> first | rfl | exact absurd rfl (h _) | simp_all
theorem t_get : ∀ t ds x, dset t ds = some x → dget t x = ds := by
  intro t ds x h
  by_cases e3 : t = 3
  · subst e3; exact get3 (show dset3 ds = some x from h)
  by_cases e4 : t = 4
  · subst e4; exact get4 (show dset4 ds = some x from h)
  by_cases e5 : t = 5
  · subst e5; exact get5 (show dset5 ds = some x from h)
  by_cases e22 : t = 22
  · subst e22; exact get22 (show dset22 ds = some x from h)
  by_cases e24 : t = 24
  · subst e24; exact get24 (show dset24 ds = some x from h)
  by_cases e26 : t = 26
  · subst e26; exact get26 (show dset26 ds = some x from h)
  by_cases e27 : t = 27
  · subst e27; exact get27 (show dset27 ds = some x from h)
  by_cases e30 : t = 30
  · subst e30; exact get30 (show dset30 ds = some x from h)
  by_cases e33 : t = 33
  · subst e33; exact get33 (show dset33 ds = some x from h)
  by_cases e37 : t = 37
  · subst e37; exact get37 (show dset37 ds = some x from h)
  by_cases e75 : t = 75
  · subst e75; exact get75 (show dset75 ds = some x from h)
  by_cases e120 : t = 120
  · subst e120; exact get120 (show dset120 ds = some x from h)
  unfold dset at h
  rw [dif_neg e3, dif_neg e4, dif_neg e5, dif_neg e22, dif_neg e24, dif_neg e26, dif_neg e27, dif_neg e30, dif_neg e33, dif_neg e37, dif_neg e75, dif_neg e120] at h
  cases h
theorem t_pat : ∀ t x, (dget t x).map D.isArr = (dget t (dflt t)).map D.isArr := by
  intro t x
  unfold dget
  split
  · rfl
  · rfl
  · rfl
  · rfl
  · rfl
  · rfl
  · rfl
  · rfl
  · rfl
  · rfl
  · rfl
  · rfl
  · rename_i h
    split <;> first | rfl | exact absurd rfl (h _) | simp_all
theorem t_slice : ∀ t e, ty t = .slice e → Try.prog.underlying t = some (.slice e) := by
  intro t e h
  unfold ty at h
  cases hb : Nat.ble 100000 t <;> rw [hb] at h
  · simp only [cond_false] at h
    unfold ty0 at h
    split at h
    · cases h
    · cases h
    · cases h
    · cases h; exact Try.underlying22
    · cases h; exact Try.underlying24
    · cases h
    · cases h; exact Try.underlying27
    · cases h; exact Try.underlying30
    · cases h; exact Try.underlying33
    · cases h
    · cases h
    · cases h
    · cases h
    · cases h
    · cases h
  · cases h
theorem t_arr : ∀ t n e, ty t = .arr n e → Try.prog.underlying t = some (.array n e) := by
  intro t n e h
  unfold ty at h
  cases hb : Nat.ble 100000 t <;> rw [hb] at h
  · simp only [cond_false] at h
    unfold ty0 at h
    split at h
    · cases h
    · cases h
    · cases h
    · cases h
    · cases h
    · cases h
    · cases h
    · cases h
    · cases h
    · cases h
    · cases h
    · cases h
    · cases h
    · cases h
    · cases h
  · cases h
theorem t_str : ∀ t, ty t = .str → Try.prog.underlying t = some .string := by
  intro t h
  unfold ty at h
  cases hb : Nat.ble 100000 t <;> rw [hb] at h
  · simp only [cond_false] at h
    unfold ty0 at h
    split at h
    · cases h
    · cases h
    · cases h
    · cases h
    · cases h
    · cases h
    · cases h
    · cases h
    · cases h
    · cases h
    · cases h
    · cases h
    · cases h
    · cases h
    · cases h
  · cases h
theorem t_bool : ∀ t, ty t = .bool → Try.prog.underlying t = some .bool := by
  intro t h
  unfold ty at h
  cases hb : Nat.ble 100000 t <;> rw [hb] at h
  · simp only [cond_false] at h
    unfold ty0 at h
    split at h
    · cases h
    · exact Try.underlying4
    · cases h
    · cases h
    · cases h
    · cases h
    · cases h
    · cases h
    · cases h
    · cases h
    · cases h
    · cases h
    · cases h
    · cases h
    · cases h
  · cases h
theorem t_int : ∀ t k, ty t = .int k → Try.prog.underlying t = some (.int k) := by
  intro t k h
  unfold ty at h
  cases hb : Nat.ble 100000 t <;> rw [hb] at h
  · simp only [cond_false] at h
    unfold ty0 at h
    split at h
    · cases h; exact Try.underlying3
    · cases h
    · cases h; exact Try.underlying5
    · cases h
    · cases h
    · cases h
    · cases h
    · cases h
    · cases h
    · cases h
    · cases h
    · cases h
    · cases h
    · cases h
    · cases h
  · cases h
theorem t_intS : ∀ t k, ty t = .int k → ∀ n, ∃ x, dset t [.int k n] = some x := by
  intro t k h
  unfold ty at h
  cases hb : Nat.ble 100000 t <;> rw [hb] at h
  · simp only [cond_false] at h
    unfold ty0 at h
    split at h
    · cases h; exact fun n => ⟨n, rfl⟩
    · cases h
    · cases h; exact fun n => ⟨n, rfl⟩
    · cases h
    · cases h
    · cases h
    · cases h
    · cases h
    · cases h
    · cases h
    · cases h
    · cases h
    · cases h
    · cases h
    · cases h
  · cases h
theorem t_intC : ∀ t k, ty t = .int k → ∀ x, ∃ n, dget t x = [.int k n] := by
  intro t k h
  unfold ty at h
  cases hb : Nat.ble 100000 t <;> rw [hb] at h
  · simp only [cond_false] at h
    unfold ty0 at h
    split at h
    · cases h; exact fun x => ⟨x, rfl⟩
    · cases h
    · cases h; exact fun x => ⟨x, rfl⟩
    · cases h
    · cases h
    · cases h
    · cases h
    · cases h
    · cases h
    · cases h
    · cases h
    · cases h
    · cases h
    · cases h
    · cases h
  · cases h
theorem t_ptr : ∀ t e, ty t = .ptr e → Try.prog.underlying t = some (.pointer e) := by
  intro t e h
  unfold ty at h
  cases hb : Nat.ble 100000 t <;> rw [hb] at h
  · simp only [cond_false] at h
    unfold ty0 at h
    split at h
    · cases h
    · cases h
    · cases h
    · cases h
    · cases h
    · cases h
    · cases h
    · cases h
    · cases h
    · cases h
    · cases h
    · cases h
    · cases h; exact Try.underlying70
    · cases h
    · cases h
  · cases h
theorem t_map : ∀ t k e, ty t = .map k e → Try.prog.underlying t = some (.map k e) := by
  intro t k e h
  unfold ty at h
  cases hb : Nat.ble 100000 t <;> rw [hb] at h
  · simp only [cond_false] at h
    unfold ty0 at h
    split at h
    · cases h
    · cases h
    · cases h
    · cases h
    · cases h
    · cases h
    · cases h
    · cases h
    · cases h
    · cases h
    · cases h
    · cases h
    · cases h
    · cases h; exact Try.underlying145
    · cases h
  · cases h
theorem t_struct : ∀ t fs, ty t = .struct fs → ∃ fields : Array Field, Try.prog.underlying t = some (.struct fields) ∧ fs = fields.toList.map (fun f => (f.offset, f.type)) ∧ (∀ f ∈ fields.toList, 0 < size f.type ∧ f.name ≠ "_") := by
  intro t fs h
  unfold ty at h
  cases hb : Nat.ble 100000 t <;> rw [hb] at h
  · simp only [cond_false] at h
    unfold ty0 at h
    split at h
    · cases h
    · cases h
    · cases h
    · cases h
    · cases h
    · cases h; exact ⟨_, Try.underlying26, rfl, fchk_ok (by rfl)⟩
    · cases h
    · cases h
    · cases h
    · cases h; exact ⟨_, Try.underlying37, rfl, fchk_ok (by rfl)⟩
    · cases h; exact ⟨_, Try.underlying75, rfl, fchk_ok (by rfl)⟩
    · cases h; exact ⟨_, Try.underlying120, rfl, fchk_ok (by rfl)⟩
    · cases h
    · cases h
    · cases h
  · cases h
theorem t_info : ∀ t, 0 < size t → ∃ i, Try.prog.info? t = some i ∧ i.size = size t ∧ i.bytes = bytes t ∧ ∃ z, i.zero = some z ∧ z.cells.toList = zero t ∧ (Go.Sm.isAgg T t = true → ∃ cs, z = .agg cs) := by
  intro t h
  unfold size at h
  split at h
  · exact ⟨Try.t3, by kernel_rfl, rfl, rfl, _, rfl, rfl, fun h => nomatch (show false = true from h)⟩
  · exact ⟨Try.t4, by kernel_rfl, rfl, rfl, _, rfl, rfl, fun h => nomatch (show false = true from h)⟩
  · exact ⟨Try.t5, by kernel_rfl, rfl, rfl, _, rfl, rfl, fun h => nomatch (show false = true from h)⟩
  · exact ⟨Try.t22, by kernel_rfl, rfl, rfl, _, rfl, rfl, fun h => nomatch (show false = true from h)⟩
  · exact ⟨Try.t24, by kernel_rfl, rfl, rfl, _, rfl, rfl, fun h => nomatch (show false = true from h)⟩
  · exact ⟨Try.t26, by kernel_rfl, rfl, rfl, _, rfl, rfl, fun h => ⟨_, rfl⟩⟩
  · exact ⟨Try.t27, by kernel_rfl, rfl, rfl, _, rfl, rfl, fun h => nomatch (show false = true from h)⟩
  · exact ⟨Try.t30, by kernel_rfl, rfl, rfl, _, rfl, rfl, fun h => nomatch (show false = true from h)⟩
  · exact ⟨Try.t33, by kernel_rfl, rfl, rfl, _, rfl, rfl, fun h => nomatch (show false = true from h)⟩
  · exact ⟨Try.t37, by kernel_rfl, rfl, rfl, _, rfl, rfl, fun h => ⟨_, rfl⟩⟩
  · exact ⟨Try.t75, by kernel_rfl, rfl, rfl, _, rfl, rfl, fun h => ⟨_, rfl⟩⟩
  · exact ⟨Try.t120, by kernel_rfl, rfl, rfl, _, rfl, rfl, fun h => ⟨_, rfl⟩⟩
  · exact absurd h (Nat.lt_irrefl _)
theorem t_agg : ∀ t, 0 < size t → ((match Try.prog.underlying t with | some (.struct _) => true | some (.array _ _) => true | _ => false) = Go.Sm.isAgg T t) := by
  intro t h
  unfold size at h
  split at h
  · rw [Try.underlying3]; rfl
  · rw [Try.underlying4]; rfl
  · rw [Try.underlying5]; rfl
  · rw [Try.underlying22]; rfl
  · rw [Try.underlying24]; rfl
  · rw [Try.underlying26]; rfl
  · rw [Try.underlying27]; rfl
  · rw [Try.underlying30]; rfl
  · rw [Try.underlying33]; rfl
  · rw [Try.underlying37]; rfl
  · rw [Try.underlying75]; rfl
  · rw [Try.underlying120]; rfl
  · exact absurd h (Nat.lt_irrefl _)
theorem t_und : ∀ t, 0 < size t → ∃ d, Try.prog.underlying t = some d := by
  intro t h
  unfold size at h
  split at h
  · exact ⟨_, Try.underlying3⟩
  · exact ⟨_, Try.underlying4⟩
  · exact ⟨_, Try.underlying5⟩
  · exact ⟨_, Try.underlying22⟩
  · exact ⟨_, Try.underlying24⟩
  · exact ⟨_, Try.underlying26⟩
  · exact ⟨_, Try.underlying27⟩
  · exact ⟨_, Try.underlying30⟩
  · exact ⟨_, Try.underlying33⟩
  · exact ⟨_, Try.underlying37⟩
  · exact ⟨_, Try.underlying75⟩
  · exact ⟨_, Try.underlying120⟩
  · exact absurd h (Nat.lt_irrefl _)
theorem t_zv : ∀ t, 0 < size t → Go.Sm.isAgg T t = false → ∃ i z, Try.prog.info? t = some i ∧ i.zero = some z ∧ ∀ cs, z ≠ .agg cs := by
  intro t h
  unfold size at h
  split at h
  · exact fun _ => ⟨Try.t3, .int .i64 0, by kernel_rfl, rfl, fun cs h => nomatch h⟩
  · exact fun _ => ⟨Try.t4, .bool false, by kernel_rfl, rfl, fun cs h => nomatch h⟩
  · exact fun _ => ⟨Try.t5, .int .u8 0, by kernel_rfl, rfl, fun cs h => nomatch h⟩
  · exact fun _ => ⟨Try.t22, .slice none 0 0, by kernel_rfl, rfl, fun cs h => nomatch h⟩
  · exact fun _ => ⟨Try.t24, .slice none 0 0, by kernel_rfl, rfl, fun cs h => nomatch h⟩
  · exact fun h => nomatch (show true = false from h)
  · exact fun _ => ⟨Try.t27, .slice none 0 0, by kernel_rfl, rfl, fun cs h => nomatch h⟩
  · exact fun _ => ⟨Try.t30, .slice none 0 0, by kernel_rfl, rfl, fun cs h => nomatch h⟩
  · exact fun _ => ⟨Try.t33, .slice none 0 0, by kernel_rfl, rfl, fun cs h => nomatch h⟩
  · exact fun h => nomatch (show true = false from h)
  · exact fun h => nomatch (show true = false from h)
  · exact fun h => nomatch (show true = false from h)
  · exact absurd h (Nat.lt_irrefl _)
theorem t_zero : ∀ t, 0 < size t → (zero t).length = size t ∧ ∀ (j : Nat) (d : D U) (v : Value), (dget t (dflt t))[j]? = some d → (zero t)[j]? = some v → plainD (T := T) d v ∨ (∃ u, d = .arr u [] ∧ v = .slice none 0 0) ∨ (d.isFn = true ∧ v = .nilFunc) := by
  intro t h
  have hh : zchk (U := U) (fun t l => isNilL t l) (dget t (dflt t)) (zero t) = true := by
    unfold size at h
    split at h
    · rfl
    · rfl
    · rfl
    · rfl
    · rfl
    · rfl
    · rfl
    · rfl
    · rfl
    · rfl
    · rfl
    · rfl
    · exact absurd h (Nat.lt_irrefl _)
  obtain ⟨h1, h2⟩ := zchk_ok (T := T) hh
  exact ⟨h1.trans (t_len _ _), h2⟩
theorem t_eqs : ∀ t, T.ceq t = true → EqOk Try.prog T t := by
  intro t h
  have h : ceq t = true := h
  unfold ceq at h
  cases h
theorem ok : TblOk Try.prog T := { len := t_len, get := t_get, pat := t_pat, slice := t_slice, arr := t_arr, str := t_str, bool := t_bool, int := t_int, intC := t_intC, intS := t_intS, struct := t_struct, ptr := t_ptr, map := t_map, info := t_info, agg := t_agg, zero := t_zero, und := t_und, zv := t_zv, eqs := t_eqs }
end Go.Sm.F3
