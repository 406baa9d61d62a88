import Derived.Test.YtojjoinjabogbaaEngD
import Derived.Test.YtojjoinjabogbaaA10Fn
import Derived.Test.YtojjoinjabogbaaProg
/- The program's types as the evaluator sees them. -/
set_option linter.unusedSimpArgs false
set_option linter.deprecated false
set_option linter.unusedSectionVars false
set_option linter.unusedVariables false
set_option maxRecDepth 100000
open Go Go.Proofs
noncomputable section
namespace Go.Sm.A10
def UI : Nat → (α : Type) × α
  | 3 => ⟨Int, (0 : Int)⟩
  | 4 => ⟨Bool, false⟩
  | 5 => ⟨Int, (0 : Int)⟩
  | 9 => ⟨ByteArray, str []⟩
  | 55 => ⟨List Bool, []⟩
  | 104 => ⟨List ByteArray, []⟩
  | 106 => ⟨SParty, dSParty⟩
  | 108 => ⟨SParty, dSParty⟩
  | 116 => ⟨List Int, []⟩
  | 215 => ⟨List SPost, []⟩
  | 221 => ⟨SPost, dSPost⟩
  | _ => ⟨Unit, ()⟩
abbrev U (t : Nat) : Type := (UI t).1
def dflt (t : Nat) : U t := (UI t).2
def dget : (t : Nat) → U t → List (D U)
  | 3, x => (fun (x : Int) => ([.int .i64 x] : List (D U))) x
  | 4, x => (fun (x : Bool) => ([.bool x] : List (D U))) x
  | 5, x => (fun (x : Int) => ([.int .u8 x] : List (D U))) x
  | 9, x => (fun (x : ByteArray) => ([.str x] : List (D U))) x
  | 55, x => (fun (x : List Bool) => ([.arr 4 x] : List (D U))) x
  | 104, x => (fun (x : List ByteArray) => ([.arr 9 x] : List (D U))) x
  | 106, x => (fun (x : SParty) => ([.arr 9 x.Sent, .int .i64 x.Acked, .arr 9 x.Got] : List (D U))) x
  | 108, x => (fun (x : SParty) => ([.arr 9 x.Sent, .int .i64 x.Acked, .arr 9 x.Got] : List (D U))) x
  | 116, x => (fun (x : List Int) => ([.arr 5 x] : List (D U))) x
  | 215, x => (fun (x : List SPost) => ([.arr 221 x] : List (D U))) x
  | 221, x => (fun (x : SPost) => ([.int .i64 x.From, .int .i64 x.Number, .int .i64 x.Ack, .str x.Text] : List (D U))) x
  | _, _ => []
def dset3 (ds : List (D U)) : Option Int := match ds with
  | [c0] => (intU .i64 c0).bind fun a0 => some (a0)
  | _ => none
theorem get3 {ds : List (D U)} {x : U 3} (h : dset3 ds = some x) : dget 3 x = ds := by
  unfold dset3 at h
  split at h
  · obtain ⟨a0, h0, h⟩ := Option.bind_eq_some_iff.1 h
    cases h
    rw [intU_eq h0]
    rfl
  · cases h
def dset4 (ds : List (D U)) : Option Bool := match ds with
  | [c0] => (boolU c0).bind fun a0 => some (a0)
  | _ => none
theorem get4 {ds : List (D U)} {x : U 4} (h : dset4 ds = some x) : dget 4 x = ds := by
  unfold dset4 at h
  split at h
  · obtain ⟨a0, h0, h⟩ := Option.bind_eq_some_iff.1 h
    cases h
    rw [boolU_eq h0]
    rfl
  · cases h
def dset5 (ds : List (D U)) : Option Int := match ds with
  | [c0] => (intU .u8 c0).bind fun a0 => some (a0)
  | _ => none
theorem get5 {ds : List (D U)} {x : U 5} (h : dset5 ds = some x) : dget 5 x = ds := by
  unfold dset5 at h
  split at h
  · obtain ⟨a0, h0, h⟩ := Option.bind_eq_some_iff.1 h
    cases h
    rw [intU_eq h0]
    rfl
  · cases h
def dset9 (ds : List (D U)) : Option ByteArray := match ds with
  | [c0] => (strU c0).bind fun a0 => some (a0)
  | _ => none
theorem get9 {ds : List (D U)} {x : U 9} (h : dset9 ds = some x) : dget 9 x = ds := by
  unfold dset9 at h
  split at h
  · obtain ⟨a0, h0, h⟩ := Option.bind_eq_some_iff.1 h
    cases h
    rw [strU_eq h0]
    rfl
  · cases h
def dset55 (ds : List (D U)) : Option (List Bool) := match ds with
  | [c0] => (arrU 4 c0).bind fun a0 => some (a0)
  | _ => none
theorem get55 {ds : List (D U)} {x : U 55} (h : dset55 ds = some x) : dget 55 x = ds := by
  unfold dset55 at h
  split at h
  · obtain ⟨a0, h0, h⟩ := Option.bind_eq_some_iff.1 h
    cases h
    rw [arrU_eq h0]
    rfl
  · cases h
def dset104 (ds : List (D U)) : Option (List ByteArray) := match ds with
  | [c0] => (arrU 9 c0).bind fun a0 => some (a0)
  | _ => none
theorem get104 {ds : List (D U)} {x : U 104} (h : dset104 ds = some x) : dget 104 x = ds := by
  unfold dset104 at h
  split at h
  · obtain ⟨a0, h0, h⟩ := Option.bind_eq_some_iff.1 h
    cases h
    rw [arrU_eq h0]
    rfl
  · cases h
def dset106 (ds : List (D U)) : Option SParty := match ds with
  | [c0, c1, c2] => (arrU 9 c0).bind fun a0 => (intU .i64 c1).bind fun a1 => (arrU 9 c2).bind fun a2 => some ((⟨a0, a1, a2⟩ : SParty))
  | _ => none
theorem get106 {ds : List (D U)} {x : U 106} (h : dset106 ds = some x) : dget 106 x = ds := by
  unfold dset106 at h
  split at h
  · obtain ⟨a0, h0, h⟩ := Option.bind_eq_some_iff.1 h
    obtain ⟨a1, h1, h⟩ := Option.bind_eq_some_iff.1 h
    obtain ⟨a2, h2, h⟩ := Option.bind_eq_some_iff.1 h
    cases h
    rw [arrU_eq h0, intU_eq h1, arrU_eq h2]
    rfl
  · cases h
def dset108 (ds : List (D U)) : Option SParty := match ds with
  | [c0, c1, c2] => (arrU 9 c0).bind fun a0 => (intU .i64 c1).bind fun a1 => (arrU 9 c2).bind fun a2 => some ((⟨a0, a1, a2⟩ : SParty))
  | _ => none
theorem get108 {ds : List (D U)} {x : U 108} (h : dset108 ds = some x) : dget 108 x = ds := by
  unfold dset108 at h
  split at h
  · obtain ⟨a0, h0, h⟩ := Option.bind_eq_some_iff.1 h
    obtain ⟨a1, h1, h⟩ := Option.bind_eq_some_iff.1 h
    obtain ⟨a2, h2, h⟩ := Option.bind_eq_some_iff.1 h
    cases h
    rw [arrU_eq h0, intU_eq h1, arrU_eq h2]
    rfl
  · cases h
def dset116 (ds : List (D U)) : Option (List Int) := match ds with
  | [c0] => (arrU 5 c0).bind fun a0 => some (a0)
  | _ => none
theorem get116 {ds : List (D U)} {x : U 116} (h : dset116 ds = some x) : dget 116 x = ds := by
  unfold dset116 at h
  split at h
  · obtain ⟨a0, h0, h⟩ := Option.bind_eq_some_iff.1 h
    cases h
    rw [arrU_eq h0]
    rfl
  · cases h
def dset215 (ds : List (D U)) : Option (List SPost) := match ds with
  | [c0] => (arrU 221 c0).bind fun a0 => some (a0)
  | _ => none
theorem get215 {ds : List (D U)} {x : U 215} (h : dset215 ds = some x) : dget 215 x = ds := by
  unfold dset215 at h
  split at h
  · obtain ⟨a0, h0, h⟩ := Option.bind_eq_some_iff.1 h
    cases h
    rw [arrU_eq h0]
    rfl
  · cases h
def dset221 (ds : List (D U)) : Option SPost := match ds with
  | [c0, c1, c2, c3] => (intU .i64 c0).bind fun a0 => (intU .i64 c1).bind fun a1 => (intU .i64 c2).bind fun a2 => (strU c3).bind fun a3 => some ((⟨a0, a1, a2, a3⟩ : SPost))
  | _ => none
theorem get221 {ds : List (D U)} {x : U 221} (h : dset221 ds = some x) : dget 221 x = ds := by
  unfold dset221 at h
  split at h
  · obtain ⟨a0, h0, h⟩ := Option.bind_eq_some_iff.1 h
    obtain ⟨a1, h1, h⟩ := Option.bind_eq_some_iff.1 h
    obtain ⟨a2, h2, h⟩ := Option.bind_eq_some_iff.1 h
    obtain ⟨a3, h3, h⟩ := Option.bind_eq_some_iff.1 h
    cases h
    rw [intU_eq h0, intU_eq h1, intU_eq h2, strU_eq h3]
    rfl
  · cases h
def castU {t t2 : Nat} (h : t2 = t) (x : Option (U t)) : Option (U t2) := h ▸ x
def dset (t : Nat) (ds : List (D U)) : Option (U t) :=
  if h : t = 3 then castU h (dset3 ds) else
  if h : t = 4 then castU h (dset4 ds) else
  if h : t = 5 then castU h (dset5 ds) else
  if h : t = 9 then castU h (dset9 ds) else
  if h : t = 55 then castU h (dset55 ds) else
  if h : t = 104 then castU h (dset104 ds) else
  if h : t = 106 then castU h (dset106 ds) else
  if h : t = 108 then castU h (dset108 ds) else
  if h : t = 116 then castU h (dset116 ds) else
  if h : t = 215 then castU h (dset215 ds) else
  if h : t = 221 then castU h (dset221 ds) else
  none
def ty0 : Nat → Ty
  | 3 => .int .i64
  | 4 => .bool
  | 5 => .int .u8
  | 9 => .str
  | 55 => .slice 4
  | 104 => .slice 9
  | 106 => .struct [(0, 104), (1, 3), (2, 104)]
  | 108 => .struct [(0, 104), (1, 3), (2, 104)]
  | 116 => .slice 5
  | 215 => .slice 221
  | 221 => .struct [(0, 3), (1, 3), (2, 3), (3, 9)]
  | _ => .other
def ty (t : Nat) : Ty := bif Nat.ble 100000 t then .ref (t - 100000) else ty0 t
def size : Nat → Nat
  | 3 => 1
  | 4 => 1
  | 5 => 1
  | 9 => 1
  | 55 => 1
  | 104 => 1
  | 106 => 3
  | 108 => 3
  | 116 => 1
  | 215 => 1
  | 221 => 4
  | _ => 0
def bytes : Nat → Nat
  | 3 => 8
  | 4 => 1
  | 5 => 1
  | 9 => 16
  | 55 => 24
  | 104 => 24
  | 106 => 56
  | 108 => 56
  | 116 => 24
  | 215 => 24
  | 221 => 40
  | _ => 0
def zero : Nat → List Value
  | 3 => [.int .i64 0]
  | 4 => [.bool false]
  | 5 => [.int .u8 0]
  | 9 => [.string ⟨#[]⟩]
  | 55 => [.slice none 0 0]
  | 104 => [.slice none 0 0]
  | 106 => [.slice none 0 0, .int .i64 0, .slice none 0 0]
  | 108 => [.slice none 0 0, .int .i64 0, .slice none 0 0]
  | 116 => [.slice none 0 0]
  | 215 => [.slice none 0 0]
  | 221 => [.int .i64 0, .int .i64 0, .int .i64 0, .string ⟨#[]⟩]
  | _ => []
def ceq (t : Nat) : Bool := false
def sgs : List (Nat × Sig) := [(10, ⟨[106, 106, 55, 3], [.ro, .ro, .ro, .ro], .own⟩),
  (43, ⟨[55, 55], [.ro, .ro], .own⟩),
  (46, ⟨[55, 3], [.rws, .ro], .own⟩),
  (73, ⟨[106, 3], [.ro, .ro], .own⟩),
  (74, ⟨[108, 108, 55, 3], [.ro, .ro, .ro, .ro], .own⟩),
  (75, ⟨[106], [.ro], .own⟩),
  (76, ⟨[55], [.ro], .own⟩),
  (77, ⟨[108, 108, 55, 3], [.ro, .ro, .ro, .ro], .own⟩),
  (78, ⟨[108, 108], [.ro, .ro], .own⟩),
  (79, ⟨[108, 3], [.rws, .ro], .own⟩),
  (80, ⟨[108, 3], [.ro, .ro], .own⟩),
  (101, ⟨[3, 3, 3], [.ro, .ro, .ro], .own⟩),
  (108, ⟨[3], [.ro], .own⟩),
  (113, ⟨[3, 3, 3], [.ro, .ro, .ro], .own⟩),
  (123, ⟨[104], [.ro], .own⟩),
  (156, ⟨[104, 3], [.ro, .ro], .own⟩),
  (157, ⟨[108], [.ro], .own⟩),
  (158, ⟨[104, 104], [.ro, .ro], .own⟩),
  (159, ⟨[108], [.ro], .own⟩),
  (160, ⟨[108, 3], [.ro, .ro], .own⟩),
  (161, ⟨[108, 3, 221], [.ro, .ro, .ro], .own⟩),
  (162, ⟨[104], [.ro], .own⟩),
  (163, ⟨[108], [.ro], .own⟩),
  (164, ⟨[104, 104], [.ro, .ro], .own⟩),
  (165, ⟨[108, 3, 108, 100003, 100055], [.ro, .ro, .mv, .rwp, .ro], .own⟩),
  (166, ⟨[108, 3], [.ro, .ro], .own⟩),
  (167, ⟨[108, 3, 221], [.ro, .ro, .ro], .own⟩),
  (168, ⟨[108], [.ro], .own⟩),
  (169, ⟨[104, 104], [.ro, .ro], .own⟩),
  (170, ⟨[104, 104], [.ro, .ro], .own⟩),
  (171, ⟨[104, 3], [.rws, .ro], .own⟩),
  (172, ⟨[104, 3], [.ro, .ro], .own⟩),
  (224, ⟨[104], [.ro], .own⟩),
  (225, ⟨[104], [.ro], .own⟩),
  (226, ⟨[215], [.ro], .own⟩),
  (233, ⟨[104, 49], [.ro, .ro], .own⟩),
  (252, ⟨[9], [.ro], .own⟩),
  (255, ⟨[104, 49], [.ro, .ro], .own⟩)]
def lookS (f : Nat) : List (Nat × Sig) → Sig
  | [] => ⟨[], [], .own⟩
  | (g, s) :: r => bif Nat.beq f g then s else lookS f r
def sg (f : Nat) : Sig := lookS f sgs
def cap (f : Nat) : List Nat := bif Nat.beq f 165 then [100003, 100055] else []
def T : Tbl := { U := U, ty := ty, size := size, bytes := bytes, zero := zero, dget := dget, dset := dset, dflt := dflt, ceq := ceq, keq := fun _ _ _ => false, sg := sg, cap := cap }
theorem t_len : ∀ t x, (dget t x).length = size t := by
  intro t x
  unfold dget size
  split
  · rfl
  · rfl
  · rfl
  · rfl
  · rfl
  · rfl
  · rfl
  · rfl
  · rfl
  · rfl
  · rfl
  · rename_i h
    split <;> first | rfl | exact absurd rfl (h _) | simp_all
theorem t_get : ∀ t ds x, dset t ds = some x → dget t x = ds := by
  intro t ds x h
  by_cases e3 : t = 3
  · subst e3; exact get3 (show dset3 ds = some x from h)
  by_cases e4 : t = 4
  · subst e4; exact get4 (show dset4 ds = some x from h)
  by_cases e5 : t = 5
  · subst e5; exact get5 (show dset5 ds = some x from h)
  by_cases e9 : t = 9
  · subst e9; exact get9 (show dset9 ds = some x from h)
  by_cases e55 : t = 55
  · subst e55; exact get55 (show dset55 ds = some x from h)
  by_cases e104 : t = 104
  · subst e104; exact get104 (show dset104 ds = some x from h)
  by_cases e106 : t = 106
  · subst e106; exact get106 (show dset106 ds = some x from h)
  by_cases e108 : t = 108
  · subst e108; exact get108 (show dset108 ds = some x from h)
  by_cases e116 : t = 116
  · subst e116; exact get116 (show dset116 ds = some x from h)
  by_cases e215 : t = 215
  · subst e215; exact get215 (show dset215 ds = some x from h)
  by_cases e221 : t = 221
  · subst e221; exact get221 (show dset221 ds = some x from h)
  unfold dset at h
  rw [dif_neg e3, dif_neg e4, dif_neg e5, dif_neg e9, dif_neg e55, dif_neg e104, dif_neg e106, dif_neg e108, dif_neg e116, dif_neg e215, dif_neg e221] at h
  cases h
theorem t_pat : ∀ t x, (dget t x).map D.isArr = (dget t (dflt t)).map D.isArr := by
  intro t x
  unfold dget
  split
  · rfl
  · rfl
  · rfl
  · rfl
  · rfl
  · rfl
  · rfl
  · rfl
  · rfl
  · rfl
  · rfl
  · rename_i h
    split <;> first | rfl | exact absurd rfl (h _) | simp_all
theorem t_slice : ∀ t e, ty t = .slice e → Try.prog.underlying t = some (.slice e) := by
  intro t e h
  unfold ty at h
  cases hb : Nat.ble 100000 t <;> rw [hb] at h
  · simp only [cond_false] at h
    unfold ty0 at h
    split at h
    · cases h
    · cases h
    · cases h
    · cases h
    · cases h; exact Try.underlying55
    · cases h; exact Try.underlying104
    · cases h
    · cases h
    · cases h; exact Try.underlying116
    · cases h; exact Try.underlying215
    · cases h
    · cases h
  · cases h
theorem t_arr : ∀ t n e, ty t = .arr n e → Try.prog.underlying t = some (.array n e) := by
  intro t n e h
  unfold ty at h
  cases hb : Nat.ble 100000 t <;> rw [hb] at h
  · simp only [cond_false] at h
    unfold ty0 at h
    split at h
    · cases h
    · cases h
    · cases h
    · cases h
    · cases h
    · cases h
    · cases h
    · cases h
    · cases h
    · cases h
    · cases h
    · cases h
  · cases h
theorem t_str : ∀ t, ty t = .str → Try.prog.underlying t = some .string := by
  intro t h
  unfold ty at h
  cases hb : Nat.ble 100000 t <;> rw [hb] at h
  · simp only [cond_false] at h
    unfold ty0 at h
    split at h
    · cases h
    · cases h
    · cases h
    · exact Try.underlying9
    · cases h
    · cases h
    · cases h
    · cases h
    · cases h
    · cases h
    · cases h
    · cases h
  · cases h
theorem t_bool : ∀ t, ty t = .bool → Try.prog.underlying t = some .bool := by
  intro t h
  unfold ty at h
  cases hb : Nat.ble 100000 t <;> rw [hb] at h
  · simp only [cond_false] at h
    unfold ty0 at h
    split at h
    · cases h
    · exact Try.underlying4
    · cases h
    · cases h
    · cases h
    · cases h
    · cases h
    · cases h
    · cases h
    · cases h
    · cases h
    · cases h
  · cases h
theorem t_int : ∀ t k, ty t = .int k → Try.prog.underlying t = some (.int k) := by
  intro t k h
  unfold ty at h
  cases hb : Nat.ble 100000 t <;> rw [hb] at h
  · simp only [cond_false] at h
    unfold ty0 at h
    split at h
    · cases h; exact Try.underlying3
    · cases h
    · cases h; exact Try.underlying5
    · cases h
    · cases h
    · cases h
    · cases h
    · cases h
    · cases h
    · cases h
    · cases h
    · cases h
  · cases h
theorem t_intC : ∀ t k, ty t = .int k → ∀ x, ∃ n, dget t x = [.int k n] := by
  intro t k h
  unfold ty at h
  cases hb : Nat.ble 100000 t <;> rw [hb] at h
  · simp only [cond_false] at h
    unfold ty0 at h
    split at h
    · cases h; exact fun x => ⟨x, rfl⟩
    · cases h
    · cases h; exact fun x => ⟨x, rfl⟩
    · cases h
    · cases h
    · cases h
    · cases h
    · cases h
    · cases h
    · cases h
    · cases h
    · cases h
  · cases h
theorem t_ptr : ∀ t e, ty t = .ptr e → Try.prog.underlying t = some (.pointer e) := by
  intro t e h
  unfold ty at h
  cases hb : Nat.ble 100000 t <;> rw [hb] at h
  · simp only [cond_false] at h
    unfold ty0 at h
    split at h
    · cases h
    · cases h
    · cases h
    · cases h
    · cases h
    · cases h
    · cases h
    · cases h
    · cases h
    · cases h
    · cases h
    · cases h
  · cases h
theorem t_map : ∀ t k e, ty t = .map k e → Try.prog.underlying t = some (.map k e) := by
  intro t k e h
  unfold ty at h
  cases hb : Nat.ble 100000 t <;> rw [hb] at h
  · simp only [cond_false] at h
    unfold ty0 at h
    split at h
    · cases h
    · cases h
    · cases h
    · cases h
    · cases h
    · cases h
    · cases h
    · cases h
    · cases h
    · cases h
    · cases h
    · cases h
  · cases h
theorem t_struct : ∀ t fs, ty t = .struct fs → ∃ fields : Array Field, Try.prog.underlying t = some (.struct fields) ∧ fs = fields.toList.map (fun f => (f.offset, f.type)) ∧ (∀ f ∈ fields.toList, 0 < size f.type ∧ f.name ≠ "_") := by
  intro t fs h
  unfold ty at h
  cases hb : Nat.ble 100000 t <;> rw [hb] at h
  · simp only [cond_false] at h
    unfold ty0 at h
    split at h
    · cases h
    · cases h
    · cases h
    · cases h
    · cases h
    · cases h
    · cases h; exact ⟨_, Try.underlying106, rfl, fchk_ok (by rfl)⟩
    · cases h; exact ⟨_, Try.underlying108, rfl, fchk_ok (by rfl)⟩
    · cases h
    · cases h
    · cases h; exact ⟨_, Try.underlying221, rfl, fchk_ok (by rfl)⟩
    · cases h
  · cases h
theorem t_info : ∀ t, 0 < size t → ∃ i, Try.prog.info? t = some i ∧ i.size = size t ∧ i.bytes = bytes t ∧ ∃ z, i.zero = some z ∧ z.cells.toList = zero t ∧ (Go.Sm.isAgg T t = true → ∃ cs, z = .agg cs) := by
  intro t h
  unfold size at h
  split at h
  · exact ⟨Try.t3, by kernel_rfl, rfl, rfl, _, rfl, rfl, fun h => nomatch (show false = true from h)⟩
  · exact ⟨Try.t4, by kernel_rfl, rfl, rfl, _, rfl, rfl, fun h => nomatch (show false = true from h)⟩
  · exact ⟨Try.t5, by kernel_rfl, rfl, rfl, _, rfl, rfl, fun h => nomatch (show false = true from h)⟩
  · exact ⟨Try.t9, by kernel_rfl, rfl, rfl, _, rfl, rfl, fun h => nomatch (show false = true from h)⟩
  · exact ⟨Try.t55, by kernel_rfl, rfl, rfl, _, rfl, rfl, fun h => nomatch (show false = true from h)⟩
  · exact ⟨Try.t104, by kernel_rfl, rfl, rfl, _, rfl, rfl, fun h => nomatch (show false = true from h)⟩
  · exact ⟨Try.t106, by kernel_rfl, rfl, rfl, _, rfl, rfl, fun h => ⟨_, rfl⟩⟩
  · exact ⟨Try.t108, by kernel_rfl, rfl, rfl, _, rfl, rfl, fun h => ⟨_, rfl⟩⟩
  · exact ⟨Try.t116, by kernel_rfl, rfl, rfl, _, rfl, rfl, fun h => nomatch (show false = true from h)⟩
  · exact ⟨Try.t215, by kernel_rfl, rfl, rfl, _, rfl, rfl, fun h => nomatch (show false = true from h)⟩
  · exact ⟨Try.t221, by kernel_rfl, rfl, rfl, _, rfl, rfl, fun h => ⟨_, rfl⟩⟩
  · exact absurd h (Nat.lt_irrefl _)
theorem t_agg : ∀ t, 0 < size t → ((match Try.prog.underlying t with | some (.struct _) => true | some (.array _ _) => true | _ => false) = Go.Sm.isAgg T t) := by
  intro t h
  unfold size at h
  split at h
  · rw [Try.underlying3]; rfl
  · rw [Try.underlying4]; rfl
  · rw [Try.underlying5]; rfl
  · rw [Try.underlying9]; rfl
  · rw [Try.underlying55]; rfl
  · rw [Try.underlying104]; rfl
  · rw [Try.underlying106]; rfl
  · rw [Try.underlying108]; rfl
  · rw [Try.underlying116]; rfl
  · rw [Try.underlying215]; rfl
  · rw [Try.underlying221]; rfl
  · exact absurd h (Nat.lt_irrefl _)
theorem t_und : ∀ t, 0 < size t → ∃ d, Try.prog.underlying t = some d := by
  intro t h
  unfold size at h
  split at h
  · exact ⟨_, Try.underlying3⟩
  · exact ⟨_, Try.underlying4⟩
  · exact ⟨_, Try.underlying5⟩
  · exact ⟨_, Try.underlying9⟩
  · exact ⟨_, Try.underlying55⟩
  · exact ⟨_, Try.underlying104⟩
  · exact ⟨_, Try.underlying106⟩
  · exact ⟨_, Try.underlying108⟩
  · exact ⟨_, Try.underlying116⟩
  · exact ⟨_, Try.underlying215⟩
  · exact ⟨_, Try.underlying221⟩
  · exact absurd h (Nat.lt_irrefl _)
theorem t_zv : ∀ t, 0 < size t → Go.Sm.isAgg T t = false → ∃ i z, Try.prog.info? t = some i ∧ i.zero = some z ∧ ∀ cs, z ≠ .agg cs := by
  intro t h
  unfold size at h
  split at h
  · exact fun _ => ⟨Try.t3, .int .i64 0, by kernel_rfl, rfl, fun cs h => nomatch h⟩
  · exact fun _ => ⟨Try.t4, .bool false, by kernel_rfl, rfl, fun cs h => nomatch h⟩
  · exact fun _ => ⟨Try.t5, .int .u8 0, by kernel_rfl, rfl, fun cs h => nomatch h⟩
  · exact fun _ => ⟨Try.t9, .string ⟨#[]⟩, by kernel_rfl, rfl, fun cs h => nomatch h⟩
  · exact fun _ => ⟨Try.t55, .slice none 0 0, by kernel_rfl, rfl, fun cs h => nomatch h⟩
  · exact fun _ => ⟨Try.t104, .slice none 0 0, by kernel_rfl, rfl, fun cs h => nomatch h⟩
  · exact fun h => nomatch (show true = false from h)
  · exact fun h => nomatch (show true = false from h)
  · exact fun _ => ⟨Try.t116, .slice none 0 0, by kernel_rfl, rfl, fun cs h => nomatch h⟩
  · exact fun _ => ⟨Try.t215, .slice none 0 0, by kernel_rfl, rfl, fun cs h => nomatch h⟩
  · exact fun h => nomatch (show true = false from h)
  · exact absurd h (Nat.lt_irrefl _)
theorem t_zero : ∀ t, 0 < size t → (zero t).length = size t ∧ ∀ (j : Nat) (d : D U) (v : Value), (dget t (dflt t))[j]? = some d → (zero t)[j]? = some v → plainD (T := T) d v ∨ ∃ u, d = .arr u [] ∧ v = .slice none 0 0 := by
  intro t h
  have hh : zchk (U := U) (fun t l => isNilL t l) (dget t (dflt t)) (zero t) = true := by
    unfold size at h
    split at h
    · rfl
    · rfl
    · rfl
    · rfl
    · rfl
    · rfl
    · rfl
    · rfl
    · rfl
    · rfl
    · rfl
    · exact absurd h (Nat.lt_irrefl _)
  obtain ⟨h1, h2⟩ := zchk_ok (T := T) hh
  exact ⟨h1.trans (t_len _ _), h2⟩
theorem t_eqs : ∀ t, T.ceq t = true → EqOk Try.prog T t := by
  intro t h
  have h : ceq t = true := h
  unfold ceq at h
  cases h
theorem ok : TblOk Try.prog T := { len := t_len, get := t_get, pat := t_pat, slice := t_slice, arr := t_arr, str := t_str, bool := t_bool, int := t_int, intC := t_intC, struct := t_struct, ptr := t_ptr, map := t_map, info := t_info, agg := t_agg, zero := t_zero, und := t_und, zv := t_zv, eqs := t_eqs }
end Go.Sm.A10
