import Derived.Test.YtakllmgiobpmgaaEngD
import Derived.Test.YtakllmgiobpmgaaE6Fn
import Derived.Test.YtakllmgiobpmgaaProg
/- The program's types as the evaluator sees them. -/
set_option linter.unusedSimpArgs false
set_option linter.deprecated false
set_option linter.unusedSectionVars false
set_option linter.unusedVariables false
set_option maxRecDepth 100000
open Go Go.Proofs
noncomputable section
namespace Go.Sm.E6
def UI : Nat → (α : Type) × α
  | 3 => ⟨Int, (0 : Int)⟩
  | 4 => ⟨Bool, false⟩
  | 5 => ⟨Int, (0 : Int)⟩
  | 24 => ⟨List Int, []⟩
  | 34 => ⟨List Int, []⟩
  | 44 => ⟨List SCall, []⟩
  | 54 => ⟨SCall, dSCall⟩
  | 55 => ⟨SCall, dSCall⟩
  | 184 => ⟨Sl1Cur, dSl1Cur⟩
  | 187 => ⟨Int, (0 : Int)⟩
  | _ => ⟨Unit, ()⟩
abbrev U (t : Nat) : Type := (UI t).1
def dflt (t : Nat) : U t := (UI t).2
def dget : (t : Nat) → U t → List (D U)
  | 3, x => (fun (x : Int) => ([.int .i64 x] : List (D U))) x
  | 4, x => (fun (x : Bool) => ([.bool x] : List (D U))) x
  | 5, x => (fun (x : Int) => ([.int .u8 x] : List (D U))) x
  | 24, x => (fun (x : List Int) => ([.arr 3 x] : List (D U))) x
  | 34, x => (fun (x : List Int) => ([.arr 5 x] : List (D U))) x
  | 44, x => (fun (x : List SCall) => ([.arr 55 x] : List (D U))) x
  | 54, x => (fun (x : SCall) => ([.int .i64 x.Id, .int .i64 x.Long, .int .i64 x.From, .int .i64 x.To, .int .i64 x.At] : List (D U))) x
  | 55, x => (fun (x : SCall) => ([.int .i64 x.Id, .int .i64 x.Long, .int .i64 x.From, .int .i64 x.To, .int .i64 x.At] : List (D U))) x
  | 184, x => (fun (x : Sl1Cur) => ([.arr 5 x.b, .int .i64 x.i, .int .i64 x.h] : List (D U))) x
  | 187, x => (fun (x : Int) => ([.int .u64 x] : List (D U))) x
  | _, _ => []
def dset3 (ds : List (D U)) : Option Int := match ds with
  | [c0] => (intU .i64 c0).bind fun a0 => some (a0)
  | _ => none
theorem get3 {ds : List (D U)} {x : U 3} (h : dset3 ds = some x) : dget 3 x = ds := by
  unfold dset3 at h
  split at h
  · obtain ⟨a0, h0, h⟩ := Option.bind_eq_some_iff.1 h
    cases h
    rw [intU_eq h0]
    rfl
  · cases h
def dset4 (ds : List (D U)) : Option Bool := match ds with
  | [c0] => (boolU c0).bind fun a0 => some (a0)
  | _ => none
theorem get4 {ds : List (D U)} {x : U 4} (h : dset4 ds = some x) : dget 4 x = ds := by
  unfold dset4 at h
  split at h
  · obtain ⟨a0, h0, h⟩ := Option.bind_eq_some_iff.1 h
    cases h
    rw [boolU_eq h0]
    rfl
  · cases h
def dset5 (ds : List (D U)) : Option Int := match ds with
  | [c0] => (intU .u8 c0).bind fun a0 => some (a0)
  | _ => none
theorem get5 {ds : List (D U)} {x : U 5} (h : dset5 ds = some x) : dget 5 x = ds := by
  unfold dset5 at h
  split at h
  · obtain ⟨a0, h0, h⟩ := Option.bind_eq_some_iff.1 h
    cases h
    rw [intU_eq h0]
    rfl
  · cases h
def dset24 (ds : List (D U)) : Option (List Int) := match ds with
  | [c0] => (arrU 3 c0).bind fun a0 => some (a0)
  | _ => none
theorem get24 {ds : List (D U)} {x : U 24} (h : dset24 ds = some x) : dget 24 x = ds := by
  unfold dset24 at h
  split at h
  · obtain ⟨a0, h0, h⟩ := Option.bind_eq_some_iff.1 h
    cases h
    rw [arrU_eq h0]
    rfl
  · cases h
def dset34 (ds : List (D U)) : Option (List Int) := match ds with
  | [c0] => (arrU 5 c0).bind fun a0 => some (a0)
  | _ => none
theorem get34 {ds : List (D U)} {x : U 34} (h : dset34 ds = some x) : dget 34 x = ds := by
  unfold dset34 at h
  split at h
  · obtain ⟨a0, h0, h⟩ := Option.bind_eq_some_iff.1 h
    cases h
    rw [arrU_eq h0]
    rfl
  · cases h
def dset44 (ds : List (D U)) : Option (List SCall) := match ds with
  | [c0] => (arrU 55 c0).bind fun a0 => some (a0)
  | _ => none
theorem get44 {ds : List (D U)} {x : U 44} (h : dset44 ds = some x) : dget 44 x = ds := by
  unfold dset44 at h
  split at h
  · obtain ⟨a0, h0, h⟩ := Option.bind_eq_some_iff.1 h
    cases h
    rw [arrU_eq h0]
    rfl
  · cases h
def dset54 (ds : List (D U)) : Option SCall := match ds with
  | [c0, c1, c2, c3, c4] => (intU .i64 c0).bind fun a0 => (intU .i64 c1).bind fun a1 => (intU .i64 c2).bind fun a2 => (intU .i64 c3).bind fun a3 => (intU .i64 c4).bind fun a4 => some ((⟨a0, a1, a2, a3, a4⟩ : SCall))
  | _ => none
theorem get54 {ds : List (D U)} {x : U 54} (h : dset54 ds = some x) : dget 54 x = ds := by
  unfold dset54 at h
  split at h
  · obtain ⟨a0, h0, h⟩ := Option.bind_eq_some_iff.1 h
    obtain ⟨a1, h1, h⟩ := Option.bind_eq_some_iff.1 h
    obtain ⟨a2, h2, h⟩ := Option.bind_eq_some_iff.1 h
    obtain ⟨a3, h3, h⟩ := Option.bind_eq_some_iff.1 h
    obtain ⟨a4, h4, h⟩ := Option.bind_eq_some_iff.1 h
    cases h
    rw [intU_eq h0, intU_eq h1, intU_eq h2, intU_eq h3, intU_eq h4]
    rfl
  · cases h
def dset55 (ds : List (D U)) : Option SCall := match ds with
  | [c0, c1, c2, c3, c4] => (intU .i64 c0).bind fun a0 => (intU .i64 c1).bind fun a1 => (intU .i64 c2).bind fun a2 => (intU .i64 c3).bind fun a3 => (intU .i64 c4).bind fun a4 => some ((⟨a0, a1, a2, a3, a4⟩ : SCall))
  | _ => none
theorem get55 {ds : List (D U)} {x : U 55} (h : dset55 ds = some x) : dget 55 x = ds := by
  unfold dset55 at h
  split at h
  · obtain ⟨a0, h0, h⟩ := Option.bind_eq_some_iff.1 h
    obtain ⟨a1, h1, h⟩ := Option.bind_eq_some_iff.1 h
    obtain ⟨a2, h2, h⟩ := Option.bind_eq_some_iff.1 h
    obtain ⟨a3, h3, h⟩ := Option.bind_eq_some_iff.1 h
    obtain ⟨a4, h4, h⟩ := Option.bind_eq_some_iff.1 h
    cases h
    rw [intU_eq h0, intU_eq h1, intU_eq h2, intU_eq h3, intU_eq h4]
    rfl
  · cases h
def dset184 (ds : List (D U)) : Option Sl1Cur := match ds with
  | [c0, c1, c2] => (arrU 5 c0).bind fun a0 => (intU .i64 c1).bind fun a1 => (intU .i64 c2).bind fun a2 => some ((⟨a0, a1, a2⟩ : Sl1Cur))
  | _ => none
theorem get184 {ds : List (D U)} {x : U 184} (h : dset184 ds = some x) : dget 184 x = ds := by
  unfold dset184 at h
  split at h
  · obtain ⟨a0, h0, h⟩ := Option.bind_eq_some_iff.1 h
    obtain ⟨a1, h1, h⟩ := Option.bind_eq_some_iff.1 h
    obtain ⟨a2, h2, h⟩ := Option.bind_eq_some_iff.1 h
    cases h
    rw [arrU_eq h0, intU_eq h1, intU_eq h2]
    rfl
  · cases h
def dset187 (ds : List (D U)) : Option Int := match ds with
  | [c0] => (intU .u64 c0).bind fun a0 => some (a0)
  | _ => none
theorem get187 {ds : List (D U)} {x : U 187} (h : dset187 ds = some x) : dget 187 x = ds := by
  unfold dset187 at h
  split at h
  · obtain ⟨a0, h0, h⟩ := Option.bind_eq_some_iff.1 h
    cases h
    rw [intU_eq h0]
    rfl
  · cases h
def castU {t t2 : Nat} (h : t2 = t) (x : Option (U t)) : Option (U t2) := h ▸ x
def dset (t : Nat) (ds : List (D U)) : Option (U t) :=
  if h : t = 3 then castU h (dset3 ds) else
  if h : t = 4 then castU h (dset4 ds) else
  if h : t = 5 then castU h (dset5 ds) else
  if h : t = 24 then castU h (dset24 ds) else
  if h : t = 34 then castU h (dset34 ds) else
  if h : t = 44 then castU h (dset44 ds) else
  if h : t = 54 then castU h (dset54 ds) else
  if h : t = 55 then castU h (dset55 ds) else
  if h : t = 184 then castU h (dset184 ds) else
  if h : t = 187 then castU h (dset187 ds) else
  none
def ty0 : Nat → Ty
  | 3 => .int .i64
  | 4 => .bool
  | 5 => .int .u8
  | 24 => .slice 3
  | 34 => .slice 5
  | 44 => .slice 55
  | 54 => .struct [(0, 3), (1, 3), (2, 3), (3, 3), (4, 3)]
  | 55 => .struct [(0, 3), (1, 3), (2, 3), (3, 3), (4, 3)]
  | 184 => .struct [(0, 34), (1, 3), (2, 3)]
  | 187 => .int .u64
  | 125 => .ptr 184
  | _ => .other
def ty (t : Nat) : Ty := bif Nat.ble 100000 t then .ref (t - 100000) else ty0 t
def size : Nat → Nat
  | 3 => 1
  | 4 => 1
  | 5 => 1
  | 24 => 1
  | 34 => 1
  | 44 => 1
  | 54 => 5
  | 55 => 5
  | 184 => 3
  | 187 => 1
  | _ => 0
def bytes : Nat → Nat
  | 3 => 8
  | 4 => 1
  | 5 => 1
  | 24 => 24
  | 34 => 24
  | 44 => 24
  | 54 => 40
  | 55 => 40
  | 184 => 40
  | 187 => 8
  | _ => 0
def zero : Nat → List Value
  | 3 => [.int .i64 0]
  | 4 => [.bool false]
  | 5 => [.int .u8 0]
  | 24 => [.slice none 0 0]
  | 34 => [.slice none 0 0]
  | 44 => [.slice none 0 0]
  | 54 => [.int .i64 0, .int .i64 0, .int .i64 0, .int .i64 0, .int .i64 0]
  | 55 => [.int .i64 0, .int .i64 0, .int .i64 0, .int .i64 0, .int .i64 0]
  | 184 => [.slice none 0 0, .int .i64 0, .int .i64 0]
  | 187 => [.int .u64 0]
  | _ => []
def ceq (t : Nat) : Bool := Nat.beq t 55
def sgs : List (Nat × Sig) := [(6, ⟨[34], [.ro], .own⟩),
  (21, ⟨[34], [.ro], .own⟩),
  (29, ⟨[3, 44], [.ro, .ro], .own⟩),
  (33, ⟨[34], [.ro], .own⟩),
  (34, ⟨[3, 44], [.ro, .ro], .own⟩),
  (35, ⟨[3, 44], [.ro, .ro], .own⟩),
  (36, ⟨[3, 44, 3], [.ro, .ro, .ro], .own⟩),
  (37, ⟨[3, 44], [.ro, .ro], .own⟩),
  (73, ⟨[3, 3, 3], [.ro, .ro, .ro], .own⟩),
  (82, ⟨[34], [.ro], .shal⟩),
  (86, ⟨[3, 3], [.ro, .ro], .own⟩),
  (87, ⟨[3, 3, 3], [.ro, .ro, .ro], .own⟩),
  (88, ⟨[3], [.ro], .own⟩),
  (89, ⟨[3, 44], [.ro, .ro], .own⟩),
  (90, ⟨[3, 44, 3], [.ro, .ro, .ro], .own⟩),
  (92, ⟨[44], [.ro], .own⟩),
  (93, ⟨[24, 129], [.rws, .ro], .own⟩),
  (94, ⟨[3, 3, 100044], [.ro, .ro, .ro], .own⟩),
  (96, ⟨[125, 4], [.rwv, .ro], .own⟩),
  (97, ⟨[3, 55], [.ro, .ro], .own⟩),
  (98, ⟨[44, 139], [.ro, .ro], .own⟩),
  (99, ⟨[55, 100055], [.ro, .ro], .own⟩),
  (100, ⟨[55, 55], [.ro, .ro], .own⟩),
  (101, ⟨[44, 139], [.ro, .ro], .own⟩),
  (102, ⟨[55, 100003], [.ro, .ro], .own⟩),
  (103, ⟨[55, 100003, 100055], [.ro, .ro, .ro], .own⟩),
  (118, ⟨[3], [.ro], .own⟩),
  (132, ⟨[125, 3], [.rwv, .ro], .own⟩),
  (163, ⟨[3], [.ro], .own⟩),
  (168, ⟨[3], [.ro], .own⟩),
  (169, ⟨[55, 55], [.ro, .ro], .own⟩),
  (170, ⟨[3, 44], [.ro, .ro], .own⟩),
  (171, ⟨[24, 3, 129], [.rws, .ro, .ro], .own⟩),
  (172, ⟨[125, 3], [.rwv, .ro], .own⟩),
  (188, ⟨[125], [.rwv], .own⟩),
  (201, ⟨[24, 3, 3, 129], [.rws, .ro, .ro, .ro], .own⟩),
  (211, ⟨[24, 3, 3, 3, 129], [.rws, .ro, .ro, .ro, .ro], .own⟩),
  (239, ⟨[24, 3, 3, 3, 129], [.rws, .ro, .ro, .ro, .ro], .own⟩),
  (248, ⟨[24, 3, 3, 3, 129], [.rws, .ro, .ro, .ro, .ro], .own⟩)]
def lookS (f : Nat) : List (Nat × Sig) → Sig
  | [] => ⟨[], [], .own⟩
  | (g, s) :: r => bif Nat.beq f g then s else lookS f r
def sg (f : Nat) : Sig := lookS f sgs
def cap (f : Nat) : List Nat := bif Nat.beq f 94 then [100044] else bif Nat.beq f 99 then [100055] else bif Nat.beq f 102 then [100003] else bif Nat.beq f 103 then [100003, 100055] else []
def fopt (t : Nat) (x : U t) : List (Bool × Nat × List ((u : Nat) × U u)) := []
def fty (f : Nat) : Nat := 0
def fmk (f : Nat) (cs : List ((u : Nat) × U u)) : Option (U (fty f)) := none
theorem t_fmk : ∀ f cs x, fmk f cs = some x → fpick (fopt (fty f) x) = some (f, cs) := fun f cs x h => nomatch h
def T : Tbl := { U := U, ty := ty, size := size, bytes := bytes, zero := zero, dget := dget, dset := dset, dflt := dflt, ceq := ceq, keq := fun _ _ _ => false, sg := sg, cap := cap, fopt := fopt, fty := fty, fmk := fun f cs => optP (fmk f cs) fun x h => t_fmk f cs x h }
theorem t_len : ∀ t x, (dget t x).length = size t := by
  intro t x
  unfold dget size
  split
  · rfl
  · rfl
  · rfl
  · rfl
  · rfl
  · rfl
  · rfl
  · rfl
  · rfl
  · rfl
  · rename_i h
    split <;> first | rfl | exact absurd rfl (h _) | simp_all
theorem t_get : ∀ t ds x, dset t ds = some x → dget t x = ds := by
  intro t ds x h
  by_cases e3 : t = 3
  · subst e3; exact get3 (show dset3 ds = some x from h)
  by_cases e4 : t = 4
  · subst e4; exact get4 (show dset4 ds = some x from h)
  by_cases e5 : t = 5
  · subst e5; exact get5 (show dset5 ds = some x from h)
  by_cases e24 : t = 24
  · subst e24; exact get24 (show dset24 ds = some x from h)
  by_cases e34 : t = 34
  · subst e34; exact get34 (show dset34 ds = some x from h)
  by_cases e44 : t = 44
  · subst e44; exact get44 (show dset44 ds = some x from h)
  by_cases e54 : t = 54
  · subst e54; exact get54 (show dset54 ds = some x from h)
  by_cases e55 : t = 55
  · subst e55; exact get55 (show dset55 ds = some x from h)
  by_cases e184 : t = 184
  · subst e184; exact get184 (show dset184 ds = some x from h)
  by_cases e187 : t = 187
  · subst e187; exact get187 (show dset187 ds = some x from h)
  unfold dset at h
  rw [dif_neg e3, dif_neg e4, dif_neg e5, dif_neg e24, dif_neg e34, dif_neg e44, dif_neg e54, dif_neg e55, dif_neg e184, dif_neg e187] at h
  cases h
theorem t_pat : ∀ t x, (dget t x).map D.isArr = (dget t (dflt t)).map D.isArr := by
  intro t x
  unfold dget
  split
  · rfl
  · rfl
  · rfl
  · rfl
  · rfl
  · rfl
  · rfl
  · rfl
  · rfl
  · rfl
  · rename_i h
    split <;> first | rfl | exact absurd rfl (h _) | simp_all
theorem t_slice : ∀ t e, ty t = .slice e → Try.prog.underlying t = some (.slice e) := by
  intro t e h
  unfold ty at h
  cases hb : Nat.ble 100000 t <;> rw [hb] at h
  · simp only [cond_false] at h
    unfold ty0 at h
    split at h
    · cases h
    · cases h
    · cases h
    · cases h; exact Try.underlying24
    · cases h; exact Try.underlying34
    · cases h; exact Try.underlying44
    · cases h
    · cases h
    · cases h
    · cases h
    · cases h
    · cases h
  · cases h
theorem t_arr : ∀ t n e, ty t = .arr n e → Try.prog.underlying t = some (.array n e) := by
  intro t n e h
  unfold ty at h
  cases hb : Nat.ble 100000 t <;> rw [hb] at h
  · simp only [cond_false] at h
    unfold ty0 at h
    split at h
    · cases h
    · cases h
    · cases h
    · cases h
    · cases h
    · cases h
    · cases h
    · cases h
    · cases h
    · cases h
    · cases h
    · cases h
  · cases h
theorem t_str : ∀ t, ty t = .str → Try.prog.underlying t = some .string := by
  intro t h
  unfold ty at h
  cases hb : Nat.ble 100000 t <;> rw [hb] at h
  · simp only [cond_false] at h
    unfold ty0 at h
    split at h
    · cases h
    · cases h
    · cases h
    · cases h
    · cases h
    · cases h
    · cases h
    · cases h
    · cases h
    · cases h
    · cases h
    · cases h
  · cases h
theorem t_bool : ∀ t, ty t = .bool → Try.prog.underlying t = some .bool := by
  intro t h
  unfold ty at h
  cases hb : Nat.ble 100000 t <;> rw [hb] at h
  · simp only [cond_false] at h
    unfold ty0 at h
    split at h
    · cases h
    · exact Try.underlying4
    · cases h
    · cases h
    · cases h
    · cases h
    · cases h
    · cases h
    · cases h
    · cases h
    · cases h
    · cases h
  · cases h
theorem t_int : ∀ t k, ty t = .int k → Try.prog.underlying t = some (.int k) := by
  intro t k h
  unfold ty at h
  cases hb : Nat.ble 100000 t <;> rw [hb] at h
  · simp only [cond_false] at h
    unfold ty0 at h
    split at h
    · cases h; exact Try.underlying3
    · cases h
    · cases h; exact Try.underlying5
    · cases h
    · cases h
    · cases h
    · cases h
    · cases h
    · cases h
    · cases h; exact Try.underlying187
    · cases h
    · cases h
  · cases h
theorem t_intS : ∀ t k, ty t = .int k → ∀ n, ∃ x, dset t [.int k n] = some x := by
  intro t k h
  unfold ty at h
  cases hb : Nat.ble 100000 t <;> rw [hb] at h
  · simp only [cond_false] at h
    unfold ty0 at h
    split at h
    · cases h; exact fun n => ⟨n, rfl⟩
    · cases h
    · cases h; exact fun n => ⟨n, rfl⟩
    · cases h
    · cases h
    · cases h
    · cases h
    · cases h
    · cases h
    · cases h; exact fun n => ⟨n, rfl⟩
    · cases h
    · cases h
  · cases h
theorem t_intC : ∀ t k, ty t = .int k → ∀ x, ∃ n, dget t x = [.int k n] := by
  intro t k h
  unfold ty at h
  cases hb : Nat.ble 100000 t <;> rw [hb] at h
  · simp only [cond_false] at h
    unfold ty0 at h
    split at h
    · cases h; exact fun x => ⟨x, rfl⟩
    · cases h
    · cases h; exact fun x => ⟨x, rfl⟩
    · cases h
    · cases h
    · cases h
    · cases h
    · cases h
    · cases h
    · cases h; exact fun x => ⟨x, rfl⟩
    · cases h
    · cases h
  · cases h
theorem t_ptr : ∀ t e, ty t = .ptr e → Try.prog.underlying t = some (.pointer e) := by
  intro t e h
  unfold ty at h
  cases hb : Nat.ble 100000 t <;> rw [hb] at h
  · simp only [cond_false] at h
    unfold ty0 at h
    split at h
    · cases h
    · cases h
    · cases h
    · cases h
    · cases h
    · cases h
    · cases h
    · cases h
    · cases h
    · cases h
    · cases h; exact Try.underlying125
    · cases h
  · cases h
theorem t_map : ∀ t k e, ty t = .map k e → Try.prog.underlying t = some (.map k e) := by
  intro t k e h
  unfold ty at h
  cases hb : Nat.ble 100000 t <;> rw [hb] at h
  · simp only [cond_false] at h
    unfold ty0 at h
    split at h
    · cases h
    · cases h
    · cases h
    · cases h
    · cases h
    · cases h
    · cases h
    · cases h
    · cases h
    · cases h
    · cases h
    · cases h
  · cases h
theorem t_struct : ∀ t fs, ty t = .struct fs → ∃ fields : Array Field, Try.prog.underlying t = some (.struct fields) ∧ fs = fields.toList.map (fun f => (f.offset, f.type)) ∧ (∀ f ∈ fields.toList, 0 < size f.type ∧ f.name ≠ "_") := by
  intro t fs h
  unfold ty at h
  cases hb : Nat.ble 100000 t <;> rw [hb] at h
  · simp only [cond_false] at h
    unfold ty0 at h
    split at h
    · cases h
    · cases h
    · cases h
    · cases h
    · cases h
    · cases h
    · cases h; exact ⟨_, Try.underlying54, rfl, fchk_ok (by rfl)⟩
    · cases h; exact ⟨_, Try.underlying55, rfl, fchk_ok (by rfl)⟩
    · cases h; exact ⟨_, Try.underlying184, rfl, fchk_ok (by rfl)⟩
    · cases h
    · cases h
    · cases h
  · cases h
theorem t_info : ∀ t, 0 < size t → ∃ i, Try.prog.info? t = some i ∧ i.size = size t ∧ i.bytes = bytes t ∧ ∃ z, i.zero = some z ∧ z.cells.toList = zero t ∧ (Go.Sm.isAgg T t = true → ∃ cs, z = .agg cs) := by
  intro t h
  unfold size at h
  split at h
  · exact ⟨Try.t3, by kernel_rfl, rfl, rfl, _, rfl, rfl, fun h => nomatch (show false = true from h)⟩
  · exact ⟨Try.t4, by kernel_rfl, rfl, rfl, _, rfl, rfl, fun h => nomatch (show false = true from h)⟩
  · exact ⟨Try.t5, by kernel_rfl, rfl, rfl, _, rfl, rfl, fun h => nomatch (show false = true from h)⟩
  · exact ⟨Try.t24, by kernel_rfl, rfl, rfl, _, rfl, rfl, fun h => nomatch (show false = true from h)⟩
  · exact ⟨Try.t34, by kernel_rfl, rfl, rfl, _, rfl, rfl, fun h => nomatch (show false = true from h)⟩
  · exact ⟨Try.t44, by kernel_rfl, rfl, rfl, _, rfl, rfl, fun h => nomatch (show false = true from h)⟩
  · exact ⟨Try.t54, by kernel_rfl, rfl, rfl, _, rfl, rfl, fun h => ⟨_, rfl⟩⟩
  · exact ⟨Try.t55, by kernel_rfl, rfl, rfl, _, rfl, rfl, fun h => ⟨_, rfl⟩⟩
  · exact ⟨Try.t184, by kernel_rfl, rfl, rfl, _, rfl, rfl, fun h => ⟨_, rfl⟩⟩
  · exact ⟨Try.t187, by kernel_rfl, rfl, rfl, _, rfl, rfl, fun h => nomatch (show false = true from h)⟩
  · exact absurd h (Nat.lt_irrefl _)
theorem t_agg : ∀ t, 0 < size t → ((match Try.prog.underlying t with | some (.struct _) => true | some (.array _ _) => true | _ => false) = Go.Sm.isAgg T t) := by
  intro t h
  unfold size at h
  split at h
  · rw [Try.underlying3]; rfl
  · rw [Try.underlying4]; rfl
  · rw [Try.underlying5]; rfl
  · rw [Try.underlying24]; rfl
  · rw [Try.underlying34]; rfl
  · rw [Try.underlying44]; rfl
  · rw [Try.underlying54]; rfl
  · rw [Try.underlying55]; rfl
  · rw [Try.underlying184]; rfl
  · rw [Try.underlying187]; rfl
  · exact absurd h (Nat.lt_irrefl _)
theorem t_und : ∀ t, 0 < size t → ∃ d, Try.prog.underlying t = some d := by
  intro t h
  unfold size at h
  split at h
  · exact ⟨_, Try.underlying3⟩
  · exact ⟨_, Try.underlying4⟩
  · exact ⟨_, Try.underlying5⟩
  · exact ⟨_, Try.underlying24⟩
  · exact ⟨_, Try.underlying34⟩
  · exact ⟨_, Try.underlying44⟩
  · exact ⟨_, Try.underlying54⟩
  · exact ⟨_, Try.underlying55⟩
  · exact ⟨_, Try.underlying184⟩
  · exact ⟨_, Try.underlying187⟩
  · exact absurd h (Nat.lt_irrefl _)
theorem t_zv : ∀ t, 0 < size t → Go.Sm.isAgg T t = false → ∃ i z, Try.prog.info? t = some i ∧ i.zero = some z ∧ ∀ cs, z ≠ .agg cs := by
  intro t h
  unfold size at h
  split at h
  · exact fun _ => ⟨Try.t3, .int .i64 0, by kernel_rfl, rfl, fun cs h => nomatch h⟩
  · exact fun _ => ⟨Try.t4, .bool false, by kernel_rfl, rfl, fun cs h => nomatch h⟩
  · exact fun _ => ⟨Try.t5, .int .u8 0, by kernel_rfl, rfl, fun cs h => nomatch h⟩
  · exact fun _ => ⟨Try.t24, .slice none 0 0, by kernel_rfl, rfl, fun cs h => nomatch h⟩
  · exact fun _ => ⟨Try.t34, .slice none 0 0, by kernel_rfl, rfl, fun cs h => nomatch h⟩
  · exact fun _ => ⟨Try.t44, .slice none 0 0, by kernel_rfl, rfl, fun cs h => nomatch h⟩
  · exact fun h => nomatch (show true = false from h)
  · exact fun h => nomatch (show true = false from h)
  · exact fun h => nomatch (show true = false from h)
  · exact fun _ => ⟨Try.t187, .int .u64 0, by kernel_rfl, rfl, fun cs h => nomatch h⟩
  · exact absurd h (Nat.lt_irrefl _)
theorem t_zero : ∀ t, 0 < size t → (zero t).length = size t ∧ ∀ (j : Nat) (d : D U) (v : Value), (dget t (dflt t))[j]? = some d → (zero t)[j]? = some v → plainD (T := T) d v ∨ (∃ u, d = .arr u [] ∧ v = .slice none 0 0) ∨ (d.isFn = true ∧ v = .nilFunc) := by
  intro t h
  have hh : zchk (U := U) (fun t l => isNilL t l) (dget t (dflt t)) (zero t) = true := by
    unfold size at h
    split at h
    · rfl
    · rfl
    · rfl
    · rfl
    · rfl
    · rfl
    · rfl
    · rfl
    · rfl
    · rfl
    · exact absurd h (Nat.lt_irrefl _)
  obtain ⟨h1, h2⟩ := zchk_ok (T := T) hh
  exact ⟨h1.trans (t_len _ _), h2⟩
theorem eqf55 (w : World) (d : Nat) (xs ys : Array Value) : (Op.equalIn (d + 1) 55 (.agg xs) (.agg ys)).run Try.prog w = (Op.eqFields d xs ys (Try.prog.fieldsOf 55).toList).run Try.prog w := by
  have hf : Try.prog.fieldsOf 55 = (match Try.prog.underlying 55 with | some (.struct fs) => fs | _ => #[]) := rfl
  rw [Try.underlying55] at hf
  exact run_equalIn_struct w d 55 _ _ (by rw [hf]; exact Try.underlying55) Try.stoodInHeld55
theorem eqs55 : Try.prog.fieldsOf 55 = (match Try.prog.underlying 55 with | some (.struct fs) => fs | _ => #[]) := rfl
theorem t_eq55 : EqOk Try.prog T 55 := by
  intro w xs ys us vs r hx hy he hl hk hp hq
  obtain ⟨a0, xs0, xse0, hx0⟩ := shaped_int hx
  obtain ⟨a1, xs1, xse1, hx1⟩ := shaped_int hx0
  obtain ⟨a2, xs2, xse2, hx2⟩ := shaped_int hx1
  obtain ⟨a3, xs3, xse3, hx3⟩ := shaped_int hx2
  obtain ⟨a4, xs4, xse4, hx4⟩ := shaped_int hx3
  have xse5 := shaped_nil hx4
  subst xse5 xse4 xse3 xse2 xse1 xse0
  obtain ⟨b0, ys0, yse0, hy0⟩ := shaped_int hy
  obtain ⟨b1, ys1, yse1, hy1⟩ := shaped_int hy0
  obtain ⟨b2, ys2, yse2, hy2⟩ := shaped_int hy1
  obtain ⟨b3, ys3, yse3, hy3⟩ := shaped_int hy2
  obtain ⟨b4, ys4, yse4, hy4⟩ := shaped_int hy3
  have yse5 := shaped_nil hy4
  subst yse5 yse4 yse3 yse2 yse1 yse0
  obtain ⟨u0, us0, ue0, e0, hl0, hp0⟩ := plain_cons hl hp
  obtain ⟨u1, us1, ue1, e1, hl1, hp1⟩ := plain_cons hl0 hp0
  obtain ⟨u2, us2, ue2, e2, hl2, hp2⟩ := plain_cons hl1 hp1
  obtain ⟨u3, us3, ue3, e3, hl3, hp3⟩ := plain_cons hl2 hp2
  obtain ⟨u4, us4, ue4, e4, hl4, hp4⟩ := plain_cons hl3 hp3
  have ue5 := plain_nil hl4
  subst ue5 ue4 ue3 ue2 ue1 ue0
  obtain ⟨v0, vs0, ve0, g0, hk0, hq0⟩ := plain_cons hk hq
  obtain ⟨v1, vs1, ve1, g1, hk1, hq1⟩ := plain_cons hk0 hq0
  obtain ⟨v2, vs2, ve2, g2, hk2, hq2⟩ := plain_cons hk1 hq1
  obtain ⟨v3, vs3, ve3, g3, hk3, hq3⟩ := plain_cons hk2 hq2
  obtain ⟨v4, vs4, ve4, g4, hk4, hq4⟩ := plain_cons hk3 hq3
  have ve5 := plain_nil hk4
  subst ve5 ve4 ve3 ve2 ve1 ve0
  simp only [plainD] at e0 g0 e1 g1 e2 g2 e3 g3 e4 g4
  subst e0 g0 e1 g1 e2 g2 e3 g3 e4 g4
  simp only [eqDs, eqD, Option.some.injEq, if_true] at he
  subst he
  refine ⟨?_, Try.eqGuardType55⟩
  unfold Op.equal Op.maxDepth
  rw [eqf55 w 9999]
  simp [Op.eqFields, part, run_equalIn_int, run_equalIn_bool, run_equalIn_string, ← beq_toListBytes, Sem.run_ite, eqf55, eqs55, Try.underlying3, Try.underlying55, Try.isAgg3, Try.isAgg55, Try.sizeOf55]
  by_cases c0 : a0 = b0 <;> by_cases c1 : a1 = b1 <;> by_cases c2 : a2 = b2 <;> by_cases c3 : a3 = b3 <;> by_cases c4 : a4 = b4 <;> simp [*]
theorem t_eqs : ∀ t, T.ceq t = true → EqOk Try.prog T t := by
  intro t h
  have h : ceq t = true := h
  unfold ceq at h
  skip
  rw [Nat.eq_of_beq_eq_true h]; exact t_eq55
theorem ok : TblOk Try.prog T := { len := t_len, get := t_get, pat := t_pat, slice := t_slice, arr := t_arr, str := t_str, bool := t_bool, int := t_int, intC := t_intC, intS := t_intS, struct := t_struct, ptr := t_ptr, map := t_map, info := t_info, agg := t_agg, zero := t_zero, und := t_und, zv := t_zv, eqs := t_eqs }
end Go.Sm.E6
