import Derived.Test.YtakllmgiobpmgaaEngD
import Derived.Test.YtakllmgiobpmgaaE5Fn
import Derived.Test.YtakllmgiobpmgaaProg
/- The program's types as the evaluator sees them. -/
set_option linter.unusedSimpArgs false
set_option linter.deprecated false
set_option linter.unusedSectionVars false
set_option linter.unusedVariables false
set_option maxRecDepth 100000
open Go Go.Proofs
noncomputable section
namespace Go.Sm.E5
def UI : Nat → (α : Type) × α
  | 3 => ⟨Int, (0 : Int)⟩
  | 4 => ⟨Bool, false⟩
  | 24 => ⟨List Int, []⟩
  | 42 => ⟨List SCall, []⟩
  | 44 => ⟨List SCall, []⟩
  | 54 => ⟨SCall, dSCall⟩
  | 55 => ⟨SCall, dSCall⟩
  | 119 => ⟨List Bool, []⟩
  | 133 => ⟨SCall, dSCall⟩
  | 187 => ⟨Int, (0 : Int)⟩
  | _ => ⟨Unit, ()⟩
abbrev U (t : Nat) : Type := (UI t).1
def dflt (t : Nat) : U t := (UI t).2
def dget : (t : Nat) → U t → List (D U)
  | 3, x => (fun (x : Int) => ([.int .i64 x] : List (D U))) x
  | 4, x => (fun (x : Bool) => ([.bool x] : List (D U))) x
  | 24, x => (fun (x : List Int) => ([.arr 3 x] : List (D U))) x
  | 42, x => (fun (x : List SCall) => ([.arr 133 x] : List (D U))) x
  | 44, x => (fun (x : List SCall) => ([.arr 55 x] : List (D U))) x
  | 54, x => (fun (x : SCall) => ([.int .i64 x.Id, .int .i64 x.Long, .int .i64 x.From, .int .i64 x.To, .int .i64 x.At] : List (D U))) x
  | 55, x => (fun (x : SCall) => ([.int .i64 x.Id, .int .i64 x.Long, .int .i64 x.From, .int .i64 x.To, .int .i64 x.At] : List (D U))) x
  | 119, x => (fun (x : List Bool) => ([.arr 4 x] : List (D U))) x
  | 133, x => (fun (x : SCall) => ([.int .i64 x.Id, .int .i64 x.Long, .int .i64 x.From, .int .i64 x.To, .int .i64 x.At] : List (D U))) x
  | 187, x => (fun (x : Int) => ([.int .u64 x] : List (D U))) x
  | _, _ => []
def dset3 (ds : List (D U)) : Option Int := match ds with
  | [c0] => (intU .i64 c0).bind fun a0 => some (a0)
  | _ => none
theorem get3 {ds : List (D U)} {x : U 3} (h : dset3 ds = some x) : dget 3 x = ds := by
  unfold dset3 at h
  split at h
  · obtain ⟨a0, h0, h⟩ := Option.bind_eq_some_iff.1 h
    cases h
    rw [intU_eq h0]
    rfl
  · cases h
def dset4 (ds : List (D U)) : Option Bool := match ds with
  | [c0] => (boolU c0).bind fun a0 => some (a0)
  | _ => none
theorem get4 {ds : List (D U)} {x : U 4} (h : dset4 ds = some x) : dget 4 x = ds := by
  unfold dset4 at h
  split at h
  · obtain ⟨a0, h0, h⟩ := Option.bind_eq_some_iff.1 h
    cases h
    rw [boolU_eq h0]
    rfl
  · cases h
def dset24 (ds : List (D U)) : Option (List Int) := match ds with
  | [c0] => (arrU 3 c0).bind fun a0 => some (a0)
  | _ => none
theorem get24 {ds : List (D U)} {x : U 24} (h : dset24 ds = some x) : dget 24 x = ds := by
  unfold dset24 at h
  split at h
  · obtain ⟨a0, h0, h⟩ := Option.bind_eq_some_iff.1 h
    cases h
    rw [arrU_eq h0]
    rfl
  · cases h
def dset42 (ds : List (D U)) : Option (List SCall) := match ds with
  | [c0] => (arrU 133 c0).bind fun a0 => some (a0)
  | _ => none
theorem get42 {ds : List (D U)} {x : U 42} (h : dset42 ds = some x) : dget 42 x = ds := by
  unfold dset42 at h
  split at h
  · obtain ⟨a0, h0, h⟩ := Option.bind_eq_some_iff.1 h
    cases h
    rw [arrU_eq h0]
    rfl
  · cases h
def dset44 (ds : List (D U)) : Option (List SCall) := match ds with
  | [c0] => (arrU 55 c0).bind fun a0 => some (a0)
  | _ => none
theorem get44 {ds : List (D U)} {x : U 44} (h : dset44 ds = some x) : dget 44 x = ds := by
  unfold dset44 at h
  split at h
  · obtain ⟨a0, h0, h⟩ := Option.bind_eq_some_iff.1 h
    cases h
    rw [arrU_eq h0]
    rfl
  · cases h
def dset54 (ds : List (D U)) : Option SCall := match ds with
  | [c0, c1, c2, c3, c4] => (intU .i64 c0).bind fun a0 => (intU .i64 c1).bind fun a1 => (intU .i64 c2).bind fun a2 => (intU .i64 c3).bind fun a3 => (intU .i64 c4).bind fun a4 => some ((⟨a0, a1, a2, a3, a4⟩ : SCall))
  | _ => none
theorem get54 {ds : List (D U)} {x : U 54} (h : dset54 ds = some x) : dget 54 x = ds := by
  unfold dset54 at h
  split at h
  · obtain ⟨a0, h0, h⟩ := Option.bind_eq_some_iff.1 h
    obtain ⟨a1, h1, h⟩ := Option.bind_eq_some_iff.1 h
    obtain ⟨a2, h2, h⟩ := Option.bind_eq_some_iff.1 h
    obtain ⟨a3, h3, h⟩ := Option.bind_eq_some_iff.1 h
    obtain ⟨a4, h4, h⟩ := Option.bind_eq_some_iff.1 h
    cases h
    rw [intU_eq h0, intU_eq h1, intU_eq h2, intU_eq h3, intU_eq h4]
    rfl
  · cases h
def dset55 (ds : List (D U)) : Option SCall := match ds with
  | [c0, c1, c2, c3, c4] => (intU .i64 c0).bind fun a0 => (intU .i64 c1).bind fun a1 => (intU .i64 c2).bind fun a2 => (intU .i64 c3).bind fun a3 => (intU .i64 c4).bind fun a4 => some ((⟨a0, a1, a2, a3, a4⟩ : SCall))
  | _ => none
theorem get55 {ds : List (D U)} {x : U 55} (h : dset55 ds = some x) : dget 55 x = ds := by
  unfold dset55 at h
  split at h
  · obtain ⟨a0, h0, h⟩ := Option.bind_eq_some_iff.1 h
    obtain ⟨a1, h1, h⟩ := Option.bind_eq_some_iff.1 h
    obtain ⟨a2, h2, h⟩ := Option.bind_eq_some_iff.1 h
    obtain ⟨a3, h3, h⟩ := Option.bind_eq_some_iff.1 h
    obtain ⟨a4, h4, h⟩ := Option.bind_eq_some_iff.1 h
    cases h
    rw [intU_eq h0, intU_eq h1, intU_eq h2, intU_eq h3, intU_eq h4]
    rfl
  · cases h
def dset119 (ds : List (D U)) : Option (List Bool) := match ds with
  | [c0] => (arrU 4 c0).bind fun a0 => some (a0)
  | _ => none
theorem get119 {ds : List (D U)} {x : U 119} (h : dset119 ds = some x) : dget 119 x = ds := by
  unfold dset119 at h
  split at h
  · obtain ⟨a0, h0, h⟩ := Option.bind_eq_some_iff.1 h
    cases h
    rw [arrU_eq h0]
    rfl
  · cases h
def dset133 (ds : List (D U)) : Option SCall := match ds with
  | [c0, c1, c2, c3, c4] => (intU .i64 c0).bind fun a0 => (intU .i64 c1).bind fun a1 => (intU .i64 c2).bind fun a2 => (intU .i64 c3).bind fun a3 => (intU .i64 c4).bind fun a4 => some ((⟨a0, a1, a2, a3, a4⟩ : SCall))
  | _ => none
theorem get133 {ds : List (D U)} {x : U 133} (h : dset133 ds = some x) : dget 133 x = ds := by
  unfold dset133 at h
  split at h
  · obtain ⟨a0, h0, h⟩ := Option.bind_eq_some_iff.1 h
    obtain ⟨a1, h1, h⟩ := Option.bind_eq_some_iff.1 h
    obtain ⟨a2, h2, h⟩ := Option.bind_eq_some_iff.1 h
    obtain ⟨a3, h3, h⟩ := Option.bind_eq_some_iff.1 h
    obtain ⟨a4, h4, h⟩ := Option.bind_eq_some_iff.1 h
    cases h
    rw [intU_eq h0, intU_eq h1, intU_eq h2, intU_eq h3, intU_eq h4]
    rfl
  · cases h
def dset187 (ds : List (D U)) : Option Int := match ds with
  | [c0] => (intU .u64 c0).bind fun a0 => some (a0)
  | _ => none
theorem get187 {ds : List (D U)} {x : U 187} (h : dset187 ds = some x) : dget 187 x = ds := by
  unfold dset187 at h
  split at h
  · obtain ⟨a0, h0, h⟩ := Option.bind_eq_some_iff.1 h
    cases h
    rw [intU_eq h0]
    rfl
  · cases h
def castU {t t2 : Nat} (h : t2 = t) (x : Option (U t)) : Option (U t2) := h ▸ x
def dset (t : Nat) (ds : List (D U)) : Option (U t) :=
  if h : t = 3 then castU h (dset3 ds) else
  if h : t = 4 then castU h (dset4 ds) else
  if h : t = 24 then castU h (dset24 ds) else
  if h : t = 42 then castU h (dset42 ds) else
  if h : t = 44 then castU h (dset44 ds) else
  if h : t = 54 then castU h (dset54 ds) else
  if h : t = 55 then castU h (dset55 ds) else
  if h : t = 119 then castU h (dset119 ds) else
  if h : t = 133 then castU h (dset133 ds) else
  if h : t = 187 then castU h (dset187 ds) else
  none
def ty0 : Nat → Ty
  | 3 => .int .i64
  | 4 => .bool
  | 24 => .slice 3
  | 42 => .slice 133
  | 44 => .slice 55
  | 54 => .struct [(0, 3), (1, 3), (2, 3), (3, 3), (4, 3)]
  | 55 => .struct [(0, 3), (1, 3), (2, 3), (3, 3), (4, 3)]
  | 119 => .slice 4
  | 133 => .struct [(0, 3), (1, 3), (2, 3), (3, 3), (4, 3)]
  | 187 => .int .u64
  | _ => .other
def ty (t : Nat) : Ty := bif Nat.ble 100000 t then .ref (t - 100000) else ty0 t
def size : Nat → Nat
  | 3 => 1
  | 4 => 1
  | 24 => 1
  | 42 => 1
  | 44 => 1
  | 54 => 5
  | 55 => 5
  | 119 => 1
  | 133 => 5
  | 187 => 1
  | _ => 0
def bytes : Nat → Nat
  | 3 => 8
  | 4 => 1
  | 24 => 24
  | 42 => 24
  | 44 => 24
  | 54 => 40
  | 55 => 40
  | 119 => 24
  | 133 => 40
  | 187 => 8
  | _ => 0
def zero : Nat → List Value
  | 3 => [.int .i64 0]
  | 4 => [.bool false]
  | 24 => [.slice none 0 0]
  | 42 => [.slice none 0 0]
  | 44 => [.slice none 0 0]
  | 54 => [.int .i64 0, .int .i64 0, .int .i64 0, .int .i64 0, .int .i64 0]
  | 55 => [.int .i64 0, .int .i64 0, .int .i64 0, .int .i64 0, .int .i64 0]
  | 119 => [.slice none 0 0]
  | 133 => [.int .i64 0, .int .i64 0, .int .i64 0, .int .i64 0, .int .i64 0]
  | 187 => [.int .u64 0]
  | _ => []
def ceq (t : Nat) : Bool := false
def sgs : List (Nat × Sig) := [(5, ⟨[3, 42], [.ro, .ro], .own⟩),
  (26, ⟨[42, 3], [.ro, .ro], .own⟩),
  (27, ⟨[3, 44], [.ro, .ro], .own⟩),
  (28, ⟨[42], [.ro], .own⟩),
  (29, ⟨[3, 44], [.ro, .ro], .own⟩),
  (30, ⟨[44, 44], [.ro, .ro], .own⟩),
  (31, ⟨[44, 3], [.rws, .ro], .own⟩),
  (32, ⟨[44, 3], [.ro, .ro], .own⟩),
  (34, ⟨[3, 44], [.ro, .ro], .own⟩),
  (35, ⟨[3, 44], [.ro, .ro], .own⟩),
  (36, ⟨[3, 44, 3], [.ro, .ro, .ro], .own⟩),
  (73, ⟨[3, 3, 3], [.ro, .ro, .ro], .own⟩),
  (86, ⟨[3, 3], [.ro, .ro], .own⟩),
  (87, ⟨[3, 3, 3], [.ro, .ro, .ro], .own⟩),
  (88, ⟨[3], [.ro], .own⟩),
  (89, ⟨[3, 44], [.ro, .ro], .own⟩),
  (90, ⟨[3, 44, 3], [.ro, .ro, .ro], .own⟩),
  (91, ⟨[133], [.ro], .own⟩),
  (92, ⟨[44], [.ro], .own⟩),
  (93, ⟨[24, 129], [.rws, .ro], .own⟩),
  (94, ⟨[3, 3, 100044], [.ro, .ro, .ro], .own⟩),
  (95, ⟨[55, 55], [.ro, .ro], .own⟩),
  (97, ⟨[3, 55], [.ro, .ro], .own⟩),
  (98, ⟨[44, 139], [.ro, .ro], .own⟩),
  (99, ⟨[55, 100055], [.ro, .ro], .own⟩),
  (100, ⟨[55, 55], [.ro, .ro], .own⟩),
  (101, ⟨[44, 139], [.ro, .ro], .own⟩),
  (102, ⟨[55, 100003], [.ro, .ro], .own⟩),
  (103, ⟨[55, 100003, 100055], [.ro, .ro, .ro], .own⟩),
  (118, ⟨[3], [.ro], .own⟩),
  (163, ⟨[3], [.ro], .own⟩),
  (168, ⟨[3], [.ro], .own⟩),
  (169, ⟨[55, 55], [.ro, .ro], .own⟩),
  (170, ⟨[3, 44], [.ro, .ro], .own⟩),
  (171, ⟨[24, 3, 129], [.rws, .ro, .ro], .own⟩),
  (201, ⟨[24, 3, 3, 129], [.rws, .ro, .ro, .ro], .own⟩),
  (211, ⟨[24, 3, 3, 3, 129], [.rws, .ro, .ro, .ro, .ro], .own⟩),
  (239, ⟨[24, 3, 3, 3, 129], [.rws, .ro, .ro, .ro, .ro], .own⟩),
  (248, ⟨[24, 3, 3, 3, 129], [.rws, .ro, .ro, .ro, .ro], .own⟩)]
def lookS (f : Nat) : List (Nat × Sig) → Sig
  | [] => ⟨[], [], .own⟩
  | (g, s) :: r => bif Nat.beq f g then s else lookS f r
def sg (f : Nat) : Sig := lookS f sgs
def cap (f : Nat) : List Nat := bif Nat.beq f 94 then [100044] else bif Nat.beq f 99 then [100055] else bif Nat.beq f 102 then [100003] else bif Nat.beq f 103 then [100003, 100055] else []
def fopt (t : Nat) (x : U t) : List (Bool × Nat × List ((u : Nat) × U u)) := []
def fty (f : Nat) : Nat := 0
def fmk (f : Nat) (cs : List ((u : Nat) × U u)) : Option (U (fty f)) := none
theorem t_fmk : ∀ f cs x, fmk f cs = some x → fpick (fopt (fty f) x) = some (f, cs) := fun f cs x h => nomatch h
def T : Tbl := { U := U, ty := ty, size := size, bytes := bytes, zero := zero, dget := dget, dset := dset, dflt := dflt, ceq := ceq, keq := fun _ _ _ => false, sg := sg, cap := cap, fopt := fopt, fty := fty, fmk := fun f cs => optP (fmk f cs) fun x h => t_fmk f cs x h }
theorem t_len : ∀ t x, (dget t x).length = size t := by
  intro t x
  unfold dget size
  split
  · rfl
  · rfl
  · rfl
  · rfl
  · rfl
  · rfl
  · rfl
  · rfl
  · rfl
  · rfl
  · rename_i h
    split <;> first | rfl | exact absurd rfl (h _) | simp_all
theorem t_get : ∀ t ds x, dset t ds = some x → dget t x = ds := by
  intro t ds x h
  by_cases e3 : t = 3
  · subst e3; exact get3 (show dset3 ds = some x from h)
  by_cases e4 : t = 4
  · subst e4; exact get4 (show dset4 ds = some x from h)
  by_cases e24 : t = 24
  · subst e24; exact get24 (show dset24 ds = some x from h)
  by_cases e42 : t = 42
  · subst e42; exact get42 (show dset42 ds = some x from h)
  by_cases e44 : t = 44
  · subst e44; exact get44 (show dset44 ds = some x from h)
  by_cases e54 : t = 54
  · subst e54; exact get54 (show dset54 ds = some x from h)
  by_cases e55 : t = 55
  · subst e55; exact get55 (show dset55 ds = some x from h)
  by_cases e119 : t = 119
  · subst e119; exact get119 (show dset119 ds = some x from h)
  by_cases e133 : t = 133
  · subst e133; exact get133 (show dset133 ds = some x from h)
  by_cases e187 : t = 187
  · subst e187; exact get187 (show dset187 ds = some x from h)
  unfold dset at h
  rw [dif_neg e3, dif_neg e4, dif_neg e24, dif_neg e42, dif_neg e44, dif_neg e54, dif_neg e55, dif_neg e119, dif_neg e133, dif_neg e187] at h
  cases h
theorem t_pat : ∀ t x, (dget t x).map D.isArr = (dget t (dflt t)).map D.isArr := by
  intro t x
  unfold dget
  split
  · rfl
  · rfl
  · rfl
  · rfl
  · rfl
  · rfl
  · rfl
  · rfl
  · rfl
  · rfl
  · rename_i h
    split <;> first | rfl | exact absurd rfl (h _) | simp_all
theorem t_slice : ∀ t e, ty t = .slice e → Try.prog.underlying t = some (.slice e) := by
  intro t e h
  unfold ty at h
  cases hb : Nat.ble 100000 t <;> rw [hb] at h
  · simp only [cond_false] at h
    unfold ty0 at h
    split at h
    · cases h
    · cases h
    · cases h; exact Try.underlying24
    · cases h; exact Try.underlying42
    · cases h; exact Try.underlying44
    · cases h
    · cases h
    · cases h; exact Try.underlying119
    · cases h
    · cases h
    · cases h
  · cases h
theorem t_arr : ∀ t n e, ty t = .arr n e → Try.prog.underlying t = some (.array n e) := by
  intro t n e h
  unfold ty at h
  cases hb : Nat.ble 100000 t <;> rw [hb] at h
  · simp only [cond_false] at h
    unfold ty0 at h
    split at h
    · cases h
    · cases h
    · cases h
    · cases h
    · cases h
    · cases h
    · cases h
    · cases h
    · cases h
    · cases h
    · cases h
  · cases h
theorem t_str : ∀ t, ty t = .str → Try.prog.underlying t = some .string := by
  intro t h
  unfold ty at h
  cases hb : Nat.ble 100000 t <;> rw [hb] at h
  · simp only [cond_false] at h
    unfold ty0 at h
    split at h
    · cases h
    · cases h
    · cases h
    · cases h
    · cases h
    · cases h
    · cases h
    · cases h
    · cases h
    · cases h
    · cases h
  · cases h
theorem t_bool : ∀ t, ty t = .bool → Try.prog.underlying t = some .bool := by
  intro t h
  unfold ty at h
  cases hb : Nat.ble 100000 t <;> rw [hb] at h
  · simp only [cond_false] at h
    unfold ty0 at h
    split at h
    · cases h
    · exact Try.underlying4
    · cases h
    · cases h
    · cases h
    · cases h
    · cases h
    · cases h
    · cases h
    · cases h
    · cases h
  · cases h
theorem t_int : ∀ t k, ty t = .int k → Try.prog.underlying t = some (.int k) := by
  intro t k h
  unfold ty at h
  cases hb : Nat.ble 100000 t <;> rw [hb] at h
  · simp only [cond_false] at h
    unfold ty0 at h
    split at h
    · cases h; exact Try.underlying3
    · cases h
    · cases h
    · cases h
    · cases h
    · cases h
    · cases h
    · cases h
    · cases h
    · cases h; exact Try.underlying187
    · cases h
  · cases h
theorem t_intS : ∀ t k, ty t = .int k → ∀ n, ∃ x, dset t [.int k n] = some x := by
  intro t k h
  unfold ty at h
  cases hb : Nat.ble 100000 t <;> rw [hb] at h
  · simp only [cond_false] at h
    unfold ty0 at h
    split at h
    · cases h; exact fun n => ⟨n, rfl⟩
    · cases h
    · cases h
    · cases h
    · cases h
    · cases h
    · cases h
    · cases h
    · cases h
    · cases h; exact fun n => ⟨n, rfl⟩
    · cases h
  · cases h
theorem t_intC : ∀ t k, ty t = .int k → ∀ x, ∃ n, dget t x = [.int k n] := by
  intro t k h
  unfold ty at h
  cases hb : Nat.ble 100000 t <;> rw [hb] at h
  · simp only [cond_false] at h
    unfold ty0 at h
    split at h
    · cases h; exact fun x => ⟨x, rfl⟩
    · cases h
    · cases h
    · cases h
    · cases h
    · cases h
    · cases h
    · cases h
    · cases h
    · cases h; exact fun x => ⟨x, rfl⟩
    · cases h
  · cases h
theorem t_ptr : ∀ t e, ty t = .ptr e → Try.prog.underlying t = some (.pointer e) := by
  intro t e h
  unfold ty at h
  cases hb : Nat.ble 100000 t <;> rw [hb] at h
  · simp only [cond_false] at h
    unfold ty0 at h
    split at h
    · cases h
    · cases h
    · cases h
    · cases h
    · cases h
    · cases h
    · cases h
    · cases h
    · cases h
    · cases h
    · cases h
  · cases h
theorem t_map : ∀ t k e, ty t = .map k e → Try.prog.underlying t = some (.map k e) := by
  intro t k e h
  unfold ty at h
  cases hb : Nat.ble 100000 t <;> rw [hb] at h
  · simp only [cond_false] at h
    unfold ty0 at h
    split at h
    · cases h
    · cases h
    · cases h
    · cases h
    · cases h
    · cases h
    · cases h
    · cases h
    · cases h
    · cases h
    · cases h
  · cases h
theorem t_struct : ∀ t fs, ty t = .struct fs → ∃ fields : Array Field, Try.prog.underlying t = some (.struct fields) ∧ fs = fields.toList.map (fun f => (f.offset, f.type)) ∧ (∀ f ∈ fields.toList, 0 < size f.type ∧ f.name ≠ "_") := by
  intro t fs h
  unfold ty at h
  cases hb : Nat.ble 100000 t <;> rw [hb] at h
  · simp only [cond_false] at h
    unfold ty0 at h
    split at h
    · cases h
    · cases h
    · cases h
    · cases h
    · cases h
    · cases h; exact ⟨_, Try.underlying54, rfl, fchk_ok (by rfl)⟩
    · cases h; exact ⟨_, Try.underlying55, rfl, fchk_ok (by rfl)⟩
    · cases h
    · cases h; exact ⟨_, Try.underlying133, rfl, fchk_ok (by rfl)⟩
    · cases h
    · cases h
  · cases h
theorem t_info : ∀ t, 0 < size t → ∃ i, Try.prog.info? t = some i ∧ i.size = size t ∧ i.bytes = bytes t ∧ ∃ z, i.zero = some z ∧ z.cells.toList = zero t ∧ (Go.Sm.isAgg T t = true → ∃ cs, z = .agg cs) := by
  intro t h
  unfold size at h
  split at h
  · exact ⟨Try.t3, by kernel_rfl, rfl, rfl, _, rfl, rfl, fun h => nomatch (show false = true from h)⟩
  · exact ⟨Try.t4, by kernel_rfl, rfl, rfl, _, rfl, rfl, fun h => nomatch (show false = true from h)⟩
  · exact ⟨Try.t24, by kernel_rfl, rfl, rfl, _, rfl, rfl, fun h => nomatch (show false = true from h)⟩
  · exact ⟨Try.t42, by kernel_rfl, rfl, rfl, _, rfl, rfl, fun h => nomatch (show false = true from h)⟩
  · exact ⟨Try.t44, by kernel_rfl, rfl, rfl, _, rfl, rfl, fun h => nomatch (show false = true from h)⟩
  · exact ⟨Try.t54, by kernel_rfl, rfl, rfl, _, rfl, rfl, fun h => ⟨_, rfl⟩⟩
  · exact ⟨Try.t55, by kernel_rfl, rfl, rfl, _, rfl, rfl, fun h => ⟨_, rfl⟩⟩
  · exact ⟨Try.t119, by kernel_rfl, rfl, rfl, _, rfl, rfl, fun h => nomatch (show false = true from h)⟩
  · exact ⟨Try.t133, by kernel_rfl, rfl, rfl, _, rfl, rfl, fun h => ⟨_, rfl⟩⟩
  · exact ⟨Try.t187, by kernel_rfl, rfl, rfl, _, rfl, rfl, fun h => nomatch (show false = true from h)⟩
  · exact absurd h (Nat.lt_irrefl _)
theorem t_agg : ∀ t, 0 < size t → ((match Try.prog.underlying t with | some (.struct _) => true | some (.array _ _) => true | _ => false) = Go.Sm.isAgg T t) := by
  intro t h
  unfold size at h
  split at h
  · rw [Try.underlying3]; rfl
  · rw [Try.underlying4]; rfl
  · rw [Try.underlying24]; rfl
  · rw [Try.underlying42]; rfl
  · rw [Try.underlying44]; rfl
  · rw [Try.underlying54]; rfl
  · rw [Try.underlying55]; rfl
  · rw [Try.underlying119]; rfl
  · rw [Try.underlying133]; rfl
  · rw [Try.underlying187]; rfl
  · exact absurd h (Nat.lt_irrefl _)
theorem t_und : ∀ t, 0 < size t → ∃ d, Try.prog.underlying t = some d := by
  intro t h
  unfold size at h
  split at h
  · exact ⟨_, Try.underlying3⟩
  · exact ⟨_, Try.underlying4⟩
  · exact ⟨_, Try.underlying24⟩
  · exact ⟨_, Try.underlying42⟩
  · exact ⟨_, Try.underlying44⟩
  · exact ⟨_, Try.underlying54⟩
  · exact ⟨_, Try.underlying55⟩
  · exact ⟨_, Try.underlying119⟩
  · exact ⟨_, Try.underlying133⟩
  · exact ⟨_, Try.underlying187⟩
  · exact absurd h (Nat.lt_irrefl _)
theorem t_zv : ∀ t, 0 < size t → Go.Sm.isAgg T t = false → ∃ i z, Try.prog.info? t = some i ∧ i.zero = some z ∧ ∀ cs, z ≠ .agg cs := by
  intro t h
  unfold size at h
  split at h
  · exact fun _ => ⟨Try.t3, .int .i64 0, by kernel_rfl, rfl, fun cs h => nomatch h⟩
  · exact fun _ => ⟨Try.t4, .bool false, by kernel_rfl, rfl, fun cs h => nomatch h⟩
  · exact fun _ => ⟨Try.t24, .slice none 0 0, by kernel_rfl, rfl, fun cs h => nomatch h⟩
  · exact fun _ => ⟨Try.t42, .slice none 0 0, by kernel_rfl, rfl, fun cs h => nomatch h⟩
  · exact fun _ => ⟨Try.t44, .slice none 0 0, by kernel_rfl, rfl, fun cs h => nomatch h⟩
  · exact fun h => nomatch (show true = false from h)
  · exact fun h => nomatch (show true = false from h)
  · exact fun _ => ⟨Try.t119, .slice none 0 0, by kernel_rfl, rfl, fun cs h => nomatch h⟩
  · exact fun h => nomatch (show true = false from h)
  · exact fun _ => ⟨Try.t187, .int .u64 0, by kernel_rfl, rfl, fun cs h => nomatch h⟩
  · exact absurd h (Nat.lt_irrefl _)
theorem t_zero : ∀ t, 0 < size t → (zero t).length = size t ∧ ∀ (j : Nat) (d : D U) (v : Value), (dget t (dflt t))[j]? = some d → (zero t)[j]? = some v → plainD (T := T) d v ∨ (∃ u, d = .arr u [] ∧ v = .slice none 0 0) ∨ (d.isFn = true ∧ v = .nilFunc) := by
  intro t h
  have hh : zchk (U := U) (fun t l => isNilL t l) (dget t (dflt t)) (zero t) = true := by
    unfold size at h
    split at h
    · rfl
    · rfl
    · rfl
    · rfl
    · rfl
    · rfl
    · rfl
    · rfl
    · rfl
    · rfl
    · exact absurd h (Nat.lt_irrefl _)
  obtain ⟨h1, h2⟩ := zchk_ok (T := T) hh
  exact ⟨h1.trans (t_len _ _), h2⟩
theorem t_eqs : ∀ t, T.ceq t = true → EqOk Try.prog T t := by
  intro t h
  have h : ceq t = true := h
  unfold ceq at h
  cases h
theorem ok : TblOk Try.prog T := { len := t_len, get := t_get, pat := t_pat, slice := t_slice, arr := t_arr, str := t_str, bool := t_bool, int := t_int, intC := t_intC, intS := t_intS, struct := t_struct, ptr := t_ptr, map := t_map, info := t_info, agg := t_agg, zero := t_zero, und := t_und, zv := t_zv, eqs := t_eqs }
end Go.Sm.E5
