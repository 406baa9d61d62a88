import Derived.Orders
import Derived.Below
import Derived.Laws.Sem
import Derived.Laws.Cells
import Derived.Laws.CopyRow
import Derived.Laws.Entries
import Derived.ChangeKeysEq
import Derived.Laws.Strings
import Derived.WideShapes
/- An evaluator over data for the code of the program, and its law: what it computes is what the model computes. Part 1 of 4. -/
set_option linter.unusedSimpArgs false
set_option linter.deprecated false
set_option linter.unusedSectionVars false
section
set_option linter.unusedVariables false
namespace Go.Sm
/-! ### Words of the printed functions -/
def w64 (n : Int) : Int := IntKind.wrap .i64 n
def w32 (n : Int) : Int := IntKind.wrap .i32 n
def wu8 (n : Int) : Int := IntKind.wrap .u8 n
def wu32 (n : Int) : Int := IntKind.wrap .u32 n
def wu64 (n : Int) : Int := IntKind.wrap .u64 n
def chk {R : Type} (b : Bool) (x : Option R) : Option R := cond b x none
def ix {R : Type} (n : Int) (len : Nat) (x : Option R) : Option R := cond (decide (0 ≤ n)) (cond (decide (n < (len : Int))) x none) none
/-- A value with a name. -/
def bd {α β : Type} (e : α) (f : α → β) : β := f e
def str (l : List UInt8) : ByteArray := ⟨l.toArray⟩
def strb (s : ByteArray) : List Int := s.data.toList.map fun b => (b.toNat : Int)
def bstr (l : List Int) : ByteArray := ⟨(l.map fun x => UInt8.ofNat x.toNat).toArray⟩

def loopN {X R : Type} (b : X → (X → Option R) → Option R) : Nat → X → Option R
  | 0, _ => none
  | m + 1, x => b x (loopN b m)
def byteAt (s : ByteArray) (n : Nat) : Int := ((s.data.getD n 0).toNat : Int)
/-! ### Maps -/
def mgetI {β : Type} (l : List (Int × β)) (n : Int) : Option β := (l.find? fun e => decide (n = e.1)).map (·.2)
def mputI {β : Type} (l : List (Int × β)) (n : Int) (v : β) : List (Int × β) := (l.findIdx? fun e => decide (n = e.1)).elim (l ++ [(n, v)]) fun i => l.set i (n, v)
/-! ### Segments written out: what impl.written says -/
def escB (b : UInt8) : List UInt8 := bif b == 43 || (b == 58 || (b == 39 || b == 63)) then [63, b] else [b]
def wText (m : UInt8) (t : ByteArray) : List UInt8 := m :: t.data.toList.flatMap escB
def wPart : List ByteArray → List UInt8
  | [] => []
  | t :: r => wText 43 t ++ r.flatMap (wText 58)
def wSeg (tag : ByteArray) (parts : List (List ByteArray)) : List UInt8 := tag.data.toList ++ (parts.flatMap wPart ++ [39])
def wroteL {S : Type} (tag : S → ByteArray) (parts : S → List (List ByteArray)) (l : List S) : List UInt8 := l.flatMap fun s => wSeg (tag s) (parts s)
def wroteO {S : Type} (tag : S → ByteArray) (parts : S → List (List ByteArray)) (l : List S) : Option ByteArray :=
  bif decide ((wroteL tag parts l).length ≤ 1000000000) && l.all (fun s => decide ((parts s).length ≤ 1000000)) then some ⟨(wroteL tag parts l).toArray⟩ else none
end Go.Sm
end

section
set_option linter.unusedVariables false
namespace Go.Sm

/-- What a type is: as far as the evaluator looks. -/
inductive Ty
  | bool | int (k : IntKind) | str
  | slice (e : Nat) | arr (n e : Nat) | struct (fs : List (Nat × Nat))
  | ptr (e : Nat) | map (k e : Nat) | func | other
  | ref (e : Nat)
/-- What a pointer of this type leads to; 'ref': a type of the evaluator's own, for what closures hold. -/
def Ty.to? : Ty → Option Nat
  | .ptr e => some e
  | .ref e => some e
  | _ => none

/-- A cell's content as data: what it leads to stands by value. -/
inductive D (U : Nat → Type)
  | bool (b : Bool) | int (k : IntKind) (n : Int) | str (s : ByteArray)
  | arr (t : Nat) (l : List (U t)) | nil
  /-- A function's value. -/
  | fn (t : Nat) (x : U t)

/-- From here on: functions that hold a pointer to the variable they lie in, and such pointers. -/
abbrev SLF : Nat := 1000000000
abbrev SLP : Nat := 2000000000
/-- The first cell of a strings.Builder: nil, or a pointer to the builder itself. -/
abbrev SLB : Nat := 4000000000
/-- How a parameter is handed on: read only; a pointer whose variable comes back changed (what its arrays hold is its own; or: is only read); slices in it whose elements come back changed; given away. -/
inductive Mode | ro | rwp | rwv | rws | mv
/-- What a result's arrays are: the caller's own wholly; own, but what lies deeper is shared; shared. -/
inductive RK | own | shal | ro
structure Sig where
  tys : List Nat
  modes : List Mode
  rk : RK

def fpick {β : Type} : List (Bool × β) → Option β
  | [] => none
  | (b, x) :: r => cond b (some x) (fpick r)
def optP {α : Type} {P : α → Prop} : (o : Option α) → (∀ x, o = some x → P x) → Option {x : α // P x}
  | none, _ => none
  | some x, h => some ⟨x, h x rfl⟩
structure Tbl where
  U : Nat → Type
  ty : Nat → Ty
  size : Nat → Nat
  bytes : Nat → Nat
  zero : Nat → List Value
  dget : (t : Nat) → U t → List (D U)
  dset : (t : Nat) → List (D U) → Option (U t)
  dflt : (t : Nat) → U t
  ceq : Nat → Bool
  keq : (t : Nat) → U t → U t → Bool
  sg : Nat → Sig
  cap : Nat → List Nat
  /-- Which function a value is, with what it holds: the first whose condition is met. -/
  fopt : (t : Nat) → U t → List (Bool × Nat × List ((u : Nat) × U u))
  fty : Nat → Nat
  fmk : (f : Nat) → (cs : List ((u : Nat) × U u)) → Option {x : U (fty f) // fpick (fopt (fty f) x) = some (f, cs)}

structure Ref where
  r : Nat
  ver : Nat
  p : Option (Nat × Nat)

/-- One cell of a register, or of a variable. -/
inductive C (T : Tbl)
  | d (x : D T.U)
  | ex (t : Nat) (l : List (T.U t))
  | own (q : Ref) (t : Nat) (rng : Option (Nat × Nat)) (ex : Bool)
  | ptr (q : Ref) (row col : Nat)
  | rptr (t : Nat) (x : T.U t) (col : Nat)
  | nptr
  | fn (f : Nat) (caps : List (C T))
  | map (r : Nat)
  | undef

inductive V (T : Tbl)
  | one (c : C T)
  | agg (cs : List (C T))
  | tup (xs : List (Bool × List (C T)))
  | undef
  /-- What an operation leaves that was passed by. -/
  | skip

inductive Dep
  | all | upto (k : Nat) | hole (i : Nat)

/-- How often rows of an array have been written anew, and which ones of late. -/
structure NV where
  n : Nat
  tch : List Nat
instance : OfNat NV 0 := ⟨⟨0, []⟩⟩
/-- All that referred to rows does so no more. -/
def NV.kill (v : NV) : NV := ⟨v.n + 1, []⟩
/-- One row has been written. -/
def NV.touch (v : NV) (r : Nat) : NV := ⟨v.n + 1, r :: v.tch⟩
def NV.isZero : NV → Bool
  | ⟨0, []⟩ => true
  | _ => false
/-- Has row i stood since turn n? -/
def NV.has (v : NV) (n i : Nat) : Prop := n ≤ v.n ∧ v.n - n ≤ v.tch.length ∧ i ∉ v.tch.take (v.n - n)
instance (v : NV) (n i : Nat) : Decidable (v.has n i) := by unfold NV.has; infer_instance
theorem NV.isZero_eq {v : NV} (h : v.isZero = true) : v = 0 := by
  cases v with
  | mk n t => cases n with
    | zero => cases t with
      | nil => rfl
      | cons a t => cases h
    | succ n => cases h
theorem NV.has_of {v : NV} {n i : Nat} (h : v.n = n) : v.has n i := by
  subst h
  exact ⟨Nat.le_refl _, by omega, by simp⟩
theorem NV.has_kill {v : NV} {n i : Nat} (h : n ≤ v.n) : ¬ v.kill.has n i := fun g => by
  have := g.2.1
  simp only [NV.kill, List.length_nil] at this
  omega
theorem NV.has_touch {v : NV} {n i r : Nat} (h : n ≤ v.n) (g : (v.touch r).has n i) : v.has n i ∧ i ≠ r := by
  obtain ⟨g1, g2, g3⟩ := g
  simp only [NV.touch, List.length_cons] at g1 g2 g3
  have e : v.n + 1 - n = (v.n - n) + 1 := by omega
  rw [e, List.take_succ_cons, List.mem_cons, not_or] at g3
  exact ⟨⟨h, by omega, g3.2⟩, g3.1⟩
inductive Root (T : Tbl)
  | var (cs : List (C T))
  | arr (t : Nat) (l : List (T.U t)) (ver : Nat) (nver : NV) (dep : Dep) (pin : Bool)
  | map (kt et : Nat) (l : List (T.U kt × T.U et))
  | dead

structure St (T : Tbl) where
  regs : Nat → V T
  objs : Nat → Option (Root T)

def St.setR {T : Tbl} (s : St T) (t : Nat) (v : V T) : St T := { s with regs := fun u => bif Nat.beq u t then v else s.regs u }
def St.setO {T : Tbl} (s : St T) (r : Nat) (x : Option (Root T)) : St T := { s with objs := fun u => bif Nat.beq u r then x else s.objs u }

/-- An argument as a callee sees it. -/
inductive A (T : Tbl)
  | val (ag : Bool) (ds : List (D T.U))
  | ptr (t : Nat) (x : T.U t)
  | nptr
  | fn (f : Nat) (caps : List (A T))
  /-- A pointer to an array's row, the array with it. -/
  | pix (t : Nat) (l : List (T.U t)) (i : Nat)

inductive Out (T : Tbl)
  | var (t : Nat) (x : T.U t)
  | sl (t : Nat) (l : List (T.U t))

/-- A result: data, or a pointer to a new variable. -/
inductive RV (T : Tbl)
  | val (ag : Bool) (ds : List (D T.U))
  | ptr (t : Nat) (x : T.U t)
structure Res (T : Tbl) where
  rets : List (RV T)
  outs : List (Out T)

inductive M (T : Tbl) (α : Type) : Type
  | ret (a : α)
  | fail
  | getR (t : Nat) (k : V T → M T α)
  | setR (t : Nat) (v : V T) (k : M T α)
  | getO (r : Nat) (k : Option (Root T) → M T α)
  | setO (r : Nat) (x : Option (Root T)) (k : M T α)
  | br (b : Bool) (x y : M T α)
  | guard (t : Nat) (k : Bool → M T α)
  | call (f : Nat) (as : List (A T)) (k : Res T → M T α)

abbrev Sema (T : Tbl) := {R : Type} → Nat → List (A T) → (Res T → Option R) → Option R

def V.bool? {T : Tbl} : V T → Option Bool
  | .one (.d (.bool b)) => some b
  | _ => none

def M.run {T : Tbl} {α : Type} {R : Type} (Φ : Nat → List (A T) → (Res T → Option R) → Option R) : M T α → St T → (α → St T → Option R) → Option R
  | .ret a, s, K => K a s
  | .fail, _, _ => none
  | .getR t k, s, K => (k (s.regs t)).run Φ s K
  | .setR t v k, s, K => k.run Φ (s.setR t v) K
  | .getO r k, s, K => (k (s.objs r)).run Φ s K
  | .setO r x k, s, K => k.run Φ (s.setO r x) K
  | .br b x y, s, K => cond b (x.run Φ s K) (y.run Φ s K)
  | .guard t k, s, K =>
    match s.regs t with
    | .one (.d (.bool b)) => cond b ((k true).run Φ (s.setR t (.one (.d (.bool true)))) K) ((k false).run Φ (s.setR t (.one (.d (.bool false)))) K)
    | _ => none
  | .call f as k, s, K => Φ f as fun res => (k res).run Φ s K

inductive Loc
  | reg (t : Nat) | obj (r : Nat)
  deriving DecidableEq

/-- A run, what it reads and what it writes; 'Ok f as res': the call may answer so. -/
inductive Run {T : Tbl} (Ok : Nat → List (A T) → Res T → Prop) {α : Type} : M T α → St T → α → St T → List Loc → List Loc → Prop
  | ret {a s} : Run Ok (.ret a) s a s [] []
  | getR {t k s a s' R W} : Run Ok (k (s.regs t)) s a s' R W → Run Ok (.getR t k) s a s' (.reg t :: R) W
  | setR {t v k s a s' R W} : Run Ok k (s.setR t v) a s' R W → Run Ok (.setR t v k) s a s' R (.reg t :: W)
  | getO {r k s a s' R W} : Run Ok (k (s.objs r)) s a s' R W → Run Ok (.getO r k) s a s' (.obj r :: R) W
  | setO {r x k s a s' R W} : Run Ok k (s.setO r x) a s' R W → Run Ok (.setO r x k) s a s' R (.obj r :: W)
  | brT {x y s a s' R W} : Run Ok x s a s' R W → Run Ok (.br true x y) s a s' R W
  | brF {x y s a s' R W} : Run Ok y s a s' R W → Run Ok (.br false x y) s a s' R W
  | guard {t k s b a s' R W} : s.regs t = .one (.d (.bool b)) → Run Ok (k b) s a s' R W → Run Ok (.guard t k) s a s' (.reg t :: R) W
  | call {f as k s res a s' R W} : Ok f as res → Run Ok (k res) s a s' R W → Run Ok (.call f as k) s a s' R W

def SemOk {T : Tbl} (Φ : {R : Type} → Nat → List (A T) → (Res T → Option R) → Option R) (Ok : Nat → List (A T) → Res T → Prop) : Prop :=
  ∀ {R : Type} (f : Nat) (as : List (A T)) (K : Res T → Option R) (r : R), Φ f as K = some r → ∃ res, Ok f as res ∧ K res = some r

theorem beq_ne {u t : Nat} (h : ¬u = t) : Nat.beq u t = false := by
  rw [← Bool.not_eq_true]
  intro e
  exact h (Nat.eq_of_beq_eq_true e)
theorem beq_self (u : Nat) : Nat.beq u u = true := Nat.beq_refl u

theorem St.setR_same {T : Tbl} {s : St T} {t : Nat} {v : V T} (h : s.regs t = v) : s.setR t v = s := by
  cases s with
  | mk regs objs =>
    simp only [St.setR, St.mk.injEq, and_true]
    funext u
    by_cases e : u = t
    · subst e; simp [beq_self]; exact h.symm
    · have := beq_ne e
      simp [this]

theorem run_Run {T : Tbl} {α R : Type} {Φ : {R : Type} → Nat → List (A T) → (Res T → Option R) → Option R} {Ok : Nat → List (A T) → Res T → Prop} (hΦ : SemOk Φ Ok) :
    ∀ (m : M T α) (s : St T) (K : α → St T → Option R) (r : R), m.run Φ s K = some r → ∃ a s' Rd Wr, Run Ok m s a s' Rd Wr ∧ K a s' = some r := by
  intro m
  induction m with
  | ret a => intro s K r h; exact ⟨a, s, [], [], .ret, h⟩
  | fail => intro s K r h; simp [M.run] at h
  | getR t k ih => intro s K r h; obtain ⟨a, s', Rd, Wr, h1, h2⟩ := ih _ s K r h; exact ⟨a, s', _, _, .getR h1, h2⟩
  | setR t v k ih => intro s K r h; obtain ⟨a, s', Rd, Wr, h1, h2⟩ := ih _ K r h; exact ⟨a, s', _, _, .setR h1, h2⟩
  | getO t k ih => intro s K r h; obtain ⟨a, s', Rd, Wr, h1, h2⟩ := ih _ s K r h; exact ⟨a, s', _, _, .getO h1, h2⟩
  | setO t v k ih => intro s K r h; obtain ⟨a, s', Rd, Wr, h1, h2⟩ := ih _ K r h; exact ⟨a, s', _, _, .setO h1, h2⟩
  | br b x y ihx ihy =>
    intro s K r h
    cases b with
    | true => obtain ⟨a, s', Rd, Wr, h1, h2⟩ := ihx s K r h; exact ⟨a, s', _, _, .brT h1, h2⟩
    | false => obtain ⟨a, s', Rd, Wr, h1, h2⟩ := ihy s K r h; exact ⟨a, s', _, _, .brF h1, h2⟩
  | guard t k ih =>
    intro s K r h
    simp only [M.run] at h
    split at h
    · rename_i b hb
      cases b with
      | true =>
        simp only [cond_true] at h
        rw [St.setR_same hb] at h
        obtain ⟨a, s', Rd, Wr, h1, h2⟩ := ih true s K r h
        exact ⟨a, s', _, _, .guard hb h1, h2⟩
      | false =>
        simp only [cond_false] at h
        rw [St.setR_same hb] at h
        obtain ⟨a, s', Rd, Wr, h1, h2⟩ := ih false s K r h
        exact ⟨a, s', _, _, .guard hb h1, h2⟩
    · cases h
  | call f as k ih =>
    intro s K r h
    simp only [M.run] at h
    obtain ⟨res, hok, hk⟩ := hΦ _ _ _ _ h
    obtain ⟨a, s', Rd, Wr, h1, h2⟩ := ih res s K r hk
    exact ⟨a, s', _, _, .call hok h1, h2⟩

/-! ### What a run reads and writes: two runs that do not meet may change places -/
def St.at {T : Tbl} (s : St T) : Loc → V T × Option (Root T)
  | .reg t => (s.regs t, none)
  | .obj r => (.undef, s.objs r)
theorem St.ext' {T : Tbl} {s s' : St T} (h : ∀ l, s.at l = s'.at l) : s = s' := by
  cases s; cases s'
  simp only [St.mk.injEq]
  constructor
  · funext t; have := h (.reg t); simpa [St.at] using this
  · funext r; have := h (.obj r); simpa [St.at] using this
def St.over {T : Tbl} (W : List Loc) (a b : St T) : St T :=
  { regs := fun t => if Loc.reg t ∈ W then a.regs t else b.regs t, objs := fun r => if Loc.obj r ∈ W then a.objs r else b.objs r }
theorem St.at_over {T : Tbl} (W : List Loc) (a b : St T) (l : Loc) : (St.over W a b).at l = if l ∈ W then a.at l else b.at l := by
  cases l <;> simp only [St.over, St.at] <;> split <;> rfl
theorem St.at_setR {T : Tbl} (s : St T) (t : Nat) (v : V T) (l : Loc) : (s.setR t v).at l = if l = .reg t then (v, none) else s.at l := by
  cases l with
  | reg u =>
    by_cases e : u = t
    · subst e; simp [St.at, St.setR, beq_self]
    · have := beq_ne e
      simp [St.at, St.setR, e, this]
  | obj r => simp [St.at, St.setR]
theorem St.at_setO {T : Tbl} (s : St T) (r : Nat) (x : Option (Root T)) (l : Loc) : (s.setO r x).at l = if l = .obj r then (.undef, x) else s.at l := by
  cases l with
  | obj u =>
    by_cases e : u = r
    · subst e; simp [St.at, St.setO, beq_self]
    · have := beq_ne e
      simp [St.at, St.setO, e, this]
  | reg r => simp [St.at, St.setO]

theorem Run.frame {T : Tbl} {Ok : Nat → List (A T) → Res T → Prop} {α : Type} {m : M T α} {s s' : St T} {a : α} {R W : List Loc} (h : Run Ok m s a s' R W) :
    ∀ l, l ∉ W → s'.at l = s.at l := by
  induction h with
  | ret => intro l _; rfl
  | getR _ ih => exact ih
  | setR _ ih => intro l hl; simp only [List.mem_cons, not_or] at hl; rw [ih l hl.2, St.at_setR, if_neg hl.1]
  | getO _ ih => exact ih
  | setO _ ih => intro l hl; simp only [List.mem_cons, not_or] at hl; rw [ih l hl.2, St.at_setO, if_neg hl.1]
  | brT _ ih => exact ih
  | brF _ ih => exact ih
  | guard _ _ ih => exact ih
  | call _ _ ih => exact ih

theorem Run.local {T : Tbl} {Ok : Nat → List (A T) → Res T → Prop} {α : Type} {m : M T α} {s s' : St T} {a : α} {R W : List Loc} (h : Run Ok m s a s' R W) :
    ∀ t : St T, (∀ l ∈ R, t.at l = s.at l) → Run Ok m t a (St.over W s' t) R W := by
  induction h with
  | ret =>
    intro t _
    rw [show St.over [] _ t = t from St.ext' fun l => by simp [St.at_over]]
    exact .ret
  | @getR u k s a s' R W h ih =>
    intro t ht
    have e : t.regs u = s.regs u := by have := ht (.reg u) (by simp); simpa [St.at] using this
    exact .getR (by rw [e]; exact ih t fun l hl => ht l (by simp [hl]))
  | @setR u v k s a s' R W h ih =>
    intro t ht
    refine .setR ?_
    have := ih (t.setR u v) fun l hl => by
      rw [St.at_setR, St.at_setR]
      split
      · rfl
      · exact ht l hl
    rw [show St.over (Loc.reg u :: W) s' t = St.over W s' (t.setR u v) from St.ext' fun l => by
      rw [St.at_over, St.at_over]
      by_cases hw : l ∈ W
      · simp [hw]
      · by_cases hu : l = .reg u
        · subst hu
          have := h.frame _ hw
          rw [St.at_setR] at this
          simp [hw, St.at_setR, this]
        · simp [hw, hu, St.at_setR]]
    exact this
  | @getO u k s a s' R W h ih =>
    intro t ht
    have e : t.objs u = s.objs u := by have := ht (.obj u) (by simp); simpa [St.at] using this
    exact .getO (by rw [e]; exact ih t fun l hl => ht l (by simp [hl]))
  | @setO u v k s a s' R W h ih =>
    intro t ht
    refine .setO ?_
    have := ih (t.setO u v) fun l hl => by
      rw [St.at_setO, St.at_setO]
      split
      · rfl
      · exact ht l hl
    rw [show St.over (Loc.obj u :: W) s' t = St.over W s' (t.setO u v) from St.ext' fun l => by
      rw [St.at_over, St.at_over]
      by_cases hw : l ∈ W
      · simp [hw]
      · by_cases hu : l = .obj u
        · subst hu
          have := h.frame _ hw
          rw [St.at_setO] at this
          simp [hw, St.at_setO, this]
        · simp [hw, hu, St.at_setO]]
    exact this
  | brT _ ih => intro t ht; exact .brT (ih t ht)
  | brF _ ih => intro t ht; exact .brF (ih t ht)
  | @guard u k s b a s' R W hb h ih =>
    intro t ht
    have e : t.regs u = s.regs u := by have := ht (.reg u) (by simp); simpa [St.at] using this
    exact .guard (e.trans hb) (ih t fun l hl => ht l (by simp [hl]))
  | call ho _ ih => intro t ht; exact .call ho (ih t ht)

theorem Run.swap {T : Tbl} {Ok : Nat → List (A T) → Res T → Prop} {α β : Type} {m1 : M T α} {m2 : M T β} {s s1 s2 : St T} {a : α} {b : β} {R1 W1 R2 W2 : List Loc}
    (h1 : Run Ok m1 s a s1 R1 W1) (h2 : Run Ok m2 s1 b s2 R2 W2) (hWR : ∀ l ∈ W1, l ∉ R2) (hWW : ∀ l ∈ W1, l ∉ W2) (hRW : ∀ l ∈ W2, l ∉ R1) :
    ∃ s1', Run Ok m2 s b s1' R2 W2 ∧ Run Ok m1 s1' a s2 R1 W1 := by
  have g2 := h2.local s fun l hl => (h1.frame l fun hw => hWR l hw hl).symm
  have g1 := h1.local (St.over W2 s2 s) fun l hl => by rw [St.at_over, if_neg fun hw => hRW l hw hl]
  refine ⟨_, g2, ?_⟩
  have e : St.over W1 s1 (St.over W2 s2 s) = s2 := St.ext' fun l => by
    rw [St.at_over, St.at_over]
    by_cases hw1 : l ∈ W1
    · rw [if_pos hw1, h2.frame l (hWW l hw1)]
    · by_cases hw2 : l ∈ W2
      · rw [if_neg hw1, if_pos hw2]
      · rw [if_neg hw1, if_neg hw2, h2.frame l hw2, h1.frame l hw1]
  rw [e] at g1
  exact g1
end Go.Sm
end

section
set_option linter.unusedVariables false
namespace Go.Sm
variable {T : Tbl} {α : Type}

/-! ### Operands -/
def toC : Value → Option (C T)
  | .bool b => some (.d (.bool b))
  | .int k n => some (.d (.int k n))
  | .string s => some (.d (.str s))
  | .slice none 0 0 => some (.d .nil)
  | .pointer none => some .nptr
  | .nilFunc => some .undef
  | _ => none
def toCs : List Value → Option (List (C T))
  | [] => some []
  | v :: r => match toC v, toCs r with
    | some c, some cs => some (c :: cs)
    | _, _ => none
def toV : Value → Option (V T)
  | .agg cs => (toCs cs.toList).map .agg
  | v => (toC v).map .one
def evV (x : Operand) (k : V T → M T α) : M T α :=
  match x with
  | .tmp t => .getR t k
  | .const v => match toV v with
    | some u => k u
    | none => .fail
  | .func f => cond (Nat.blt f SLF) (k (.one (.fn f []))) .fail
  | .global _ => .fail
def opV (s : St T) : Operand → Option (V T)
  | .tmp t => some (s.regs t)
  | .const v => toV v
  | .func f => cond (Nat.blt f SLF) (some (.one (.fn f []))) none
  | .global _ => none
def evC (x : Operand) (k : C T → M T α) : M T α := evV x fun v => match v with
  | .one c => k c
  | _ => .fail
def evInt (x : Operand) (k : IntKind → Int → M T α) : M T α := evC x fun c => match c with
  | .d (.int kd n) => k kd n
  | _ => .fail
def evVs : List Operand → (List (V T) → M T α) → M T α
  | [], k => k []
  | x :: r, k => evV x fun v => evVs r fun vs => k (v :: vs)

/-! ### Contents -/
def withL (t t' : Nat) (l : List (T.U t')) (k : List (T.U t) → M T α) : M T α := if h : t' = t then k (h ▸ l) else .fail
def withU (t t' : Nat) (x : T.U t') (k : T.U t → M T α) : M T α := if h : t' = t then k (h ▸ x) else .fail
def cut {β : Type} (rng : Option (Nat × Nat)) (l : List β) (k : List β → M T α) : M T α :=
  match rng with
  | none => k l
  | some (off, len) => .br (decide (off + len ≤ l.length)) (k ((l.drop off).take len)) .fail
/-- A row that is there. -/
def notHole (dep : Dep) (i : Nat) (k : M T α) : M T α :=
  match dep with
  | .hole h => .br (decide (i = h)) .fail k
  | _ => k
/-- Row i has not been written since turn n. -/
def apartM (i : Nat) : List Nat → M T α → M T α
  | [], k => k
  | r :: rs, k => .br (decide (i = r)) .fail (apartM i rs k)
def verM (v : NV) (n i : Nat) (k : M T α) : M T α :=
  cond (Nat.beq v.n n) k (cond (Nat.ble n v.n && Nat.ble (v.n - n) v.tch.length) (apartM i (v.tch.take (v.n - n)) k) .fail)
/-- The array that a reference names: its element type, its list. -/
def refArr (q : Ref) (k : (t : Nat) → List (T.U t) → M T α) : M T α :=
  .getO q.r fun o => match o with
  | some (.arr t l ver nver dep _) =>
    match q.p with
    | none => cond (Nat.beq ver q.ver) (k t l) .fail
    | some (i, c) => verM nver q.ver i (notHole dep i (.br (decide (i < l.length)) (match (T.dget t (l.getD i (T.dflt t)))[c]? with
      | some (.arr t' l') => k t' l'
      | _ => .fail) .fail))
  | _ => .fail
def depView : Dep → Bool
  | .hole _ => false
  | _ => true
/-- The same, all of what it leads to asked for. -/
def refView (q : Ref) (k : (t : Nat) → List (T.U t) → M T α) : M T α :=
  match q.p with
  | none => .getO q.r fun o => match o with
    | some (.arr t l ver _ dep _) => cond (Nat.beq ver q.ver && depView dep) (k t l) .fail
    | _ => .fail
  | some _ => refArr q k
def asArr (t : Nat) (c : C T) (k : List (T.U t) → M T α) : M T α :=
  match c with
  | .d .nil => k []
  | .d (.arr t' l) => withL t t' l k
  | .ex t' l => withL t t' l k
  | .own q _ rng _ => refView q fun t' l => withL t t' l fun l => cut rng l k
  | _ => .fail
def viewC (c : C T) (k : D T.U → M T α) : M T α :=
  match c with
  | .d x => k x
  | .ex t l => k (.arr t l)
  | .own q _ rng _ => refView q fun t' l => cut rng l fun l => k (.arr t' l)
  | _ => .fail
def viewCs : List (C T) → (List (D T.U) → M T α) → M T α
  | [], k => k []
  | c :: r, k => viewC c fun d => viewCs r fun ds => k (d :: ds)

/-- Captured pointers to what never changes. -/
def capD : List (C T) → Option (List ((u : Nat) × T.U u))
  | [] => some []
  | .rptr t x 0 :: r => (capD r).map (⟨t, x⟩ :: ·)
  | _ => none
/-- A cell's content handed over for good: what it owned is its no more. Bool: is all that it leads to now the taker's own? -/
def moveC (c : C T) (k : D T.U → Bool → M T α) : M T α :=
  match c with
  | .d (.arr t l) => k (.arr t l) false
  | .d (.fn t x) => k (.fn t x) false
  | .d x => k x true
  | .ex t l => k (.arr t l) false
  | .fn f caps => cond (Nat.blt f SLF) (match capD caps with
    | some cs => (match T.fmk f cs with
      | some x => k (.fn (T.fty f) x.1) false
      | none => .fail)
    | none => .fail) .fail
  | .own q _ rng _ => .getO q.r fun o => match o, q.p with
    | some (.arr t l ver _ .all false), none => cond (Nat.beq ver q.ver) (cut rng l fun l => .setO q.r (some .dead) (k (.arr t l) true)) .fail
    | _, _ => .fail
  | _ => .fail
def moveCs : List (C T) → (List (D T.U) → Bool → M T α) → M T α
  | [], k => k [] true
  | c :: r, k => moveC c fun d b => moveCs r fun ds bs => k (d :: ds) (b && bs)

/-- Objects from here on are the parameters' own. -/
abbrev BIG : Nat := 4503599627370496
/-- A new object under a name that is free. -/
def newO (id : Nat) (x : Root T) (k : M T α) : M T α := cond (Nat.blt id BIG) (.getO id fun o => match o with
  | none => .setO id (some x) k
  | some _ => .fail) .fail

def isAgg (T : Tbl) (t : Nat) : Bool := match T.ty t with | .struct _ => true | .arr _ _ => true | _ => false
def D.isArr {U : Nat → Type} : D U → Bool | .arr _ _ => true | .nil => true | .fn _ _ => true | _ => false
def D.isFn {U : Nat → Type} : D U → Bool | .fn _ _ => true | _ => false
def nestedAt (ds : List (D T.U)) : Bool := ds.any D.isArr
/-- How many of an element's cells lead on to arrays. -/
def arrCount (T : Tbl) (t : Nat) : Nat := ((T.dget t (T.dflt t)).filter D.isArr).length
def flat (T : Tbl) (t : Nat) : Bool := Nat.beq (arrCount T t) 0

def ofD (d : D T.U) : C T := .d d
/-- A nil slice as the empty list that its place asks for. -/
def fix1 {U : Nat → Type} : D U → D U → D U
  | .arr t _, .nil => .arr t []
  | _, d => d
def fixNil {U : Nat → Type} : List (D U) → List (D U) → List (D U)
  | p :: ps, d :: ds => fix1 p d :: fixNil ps ds
  | _, ds => ds
def Tbl.fix (T : Tbl) (t : Nat) (ds : List (D T.U)) : List (D T.U) := fixNil (T.dget t (T.dflt t)) ds
/-- The cells of a row of an array as a register has them. -/
def rowCells (r nver row : Nat) (own : Bool) : Nat → List (D T.U) → List (C T)
  | _, [] => []
  | c, .arr t l :: ds => (cond own (.own ⟨r, nver, some (row, c)⟩ t none false) (.d (.arr t l))) :: rowCells r nver row own (c + 1) ds
  | c, d :: ds => .d d :: rowCells r nver row own (c + 1) ds
def ownedRow (dep : Dep) (row : Nat) (k : Bool → M T α) : M T α :=
  match dep with
  | .all => k true
  | .upto n => .br (decide (row < n)) (k true) (k false)
  | .hole i => .br (decide (row = i)) .fail (k true)
def toVal (ag : Bool) (cs : List (C T)) (k : V T → M T α) : M T α :=
  match ag, cs with
  | true, c :: r => k (.agg (c :: r))
  | false, [c] => k (.one c)
  | _, _ => .fail
def takeAt {β : Type} (l : List β) (off n : Nat) : List β := (l.drop off).take n
def putAt {β : Type} (l : List β) (off : Nat) (x : List β) : List β := l.take off ++ x ++ l.drop (off + x.length)
def V.cells : V T → Option (List (C T))
  | .one c => some [c]
  | .agg cs => some cs
  | _ => none

/-! ### Memory -/
def loadM (t : Nat) (a : C T) (k : V T → M T α) : M T α :=
  match a with
  | .rptr t' x col => (let cs := (takeAt (T.dget t' x) col (T.size t)).map ofD; cond (Nat.beq cs.length (T.size t)) (toVal (isAgg T t) cs k) .fail)
  | .ptr q row col => .getO q.r fun o => match o with
    | some (.var cs) => cond (Nat.beq row 0) (let cs := takeAt cs col (T.size t); cond (Nat.beq cs.length (T.size t)) (toVal (isAgg T t) cs k) .fail) .fail
    | some (.arr t' l ver nver dep _) => (match q.p with
      | none => cond (Nat.beq ver q.ver) (.br (decide (row < l.length)) (
          let ds := takeAt (T.dget t' (l.getD row (T.dflt t'))) col (T.size t)
          cond (Nat.beq ds.length (T.size t)) (cond (nestedAt ds) (ownedRow dep row fun own => toVal (isAgg T t) (rowCells q.r nver.n row own col ds) k) (toVal (isAgg T t) (ds.map ofD) k)) .fail) .fail) .fail
      | some (i, c) => verM nver q.ver i (notHole dep i (.br (decide (i < l.length)) (match (T.dget t' (l.getD i (T.dflt t')))[c]? with
        | some (.arr t2 l2) => .br (decide (row < l2.length)) (
          let ds := takeAt (T.dget t2 (l2.getD row (T.dflt t2))) col (T.size t)
          cond (Nat.beq ds.length (T.size t)) (cond (nestedAt ds) .fail (toVal (isAgg T t) (ds.map ofD) k)) .fail) .fail
        | _ => .fail) .fail)))
    | _ => .fail
  | .fn f caps => cond (Nat.ble SLP f && Nat.beq (T.size t) 1 && !isAgg T t) (cond (Nat.blt f SLB) (k (.one (.fn (f - SLF) caps))) .fail) .fail
  | _ => .fail

/-- What becomes of a row's ownership when its one leading cell is written; own: what is written is one's own. -/
def depStore (dep : Dep) (row : Nat) (own : Bool) (k : Dep → M T α) : M T α :=
  match dep, own with
  | .all, true => k .all
  | .upto n, true => .br (decide (row = n)) (k (.upto (n + 1))) (k (.upto n))
  | .hole i, true => .br (decide (row = i)) (k .all) .fail
  | .upto 0, false => k (.upto 0)
  | _, false => .fail
/-- Data goes into an array's row. -/
def storeArr (q : Ref) (row col : Nat) (ds : List (D T.U)) (own : Bool) (k : M T α) : M T α := .getO q.r fun o => match o with
  | some (.arr t' l ver nver dep pin) => (match q.p with
    | none => cond (Nat.beq ver q.ver) (.br (decide (row < l.length)) (
        let old := T.dget t' (l.getD row (T.dflt t'))
        cond (Nat.ble (col + ds.length) old.length) (match T.dset t' (putAt old col ds) with
        | some x => cond (nestedAt ds)
            (cond (Nat.beq (arrCount T t') 1) (depStore dep row own fun dep => .setO q.r (some (.arr t' (l.set row x) ver (nver.touch row) dep pin)) k) .fail)
            (.setO q.r (some (.arr t' (l.set row x) ver nver dep pin)) k)
        | none => .fail) .fail) .fail) .fail
    | some (i, c) => cond (Nat.beq nver.n q.ver) (notHole dep i (.br (decide (i < l.length)) (match (T.dget t' (l.getD i (T.dflt t')))[c]? with
      | some (.arr t2 l2) => .br (decide (row < l2.length)) (cond (nestedAt ds) .fail (
          let old := T.dget t2 (l2.getD row (T.dflt t2))
          cond (Nat.ble (col + ds.length) old.length) (match T.dset t2 (putAt old col ds) with
          | some x2 => (match T.dset t' (putAt (T.dget t' (l.getD i (T.dflt t'))) c [.arr t2 (l2.set row x2)]) with
            | some x => .setO q.r (some (.arr t' (l.set i x) ver nver dep pin)) k
            | none => .fail)
          | none => .fail) .fail)) .fail
      | _ => .fail) .fail)) .fail)
  | _ => .fail
/-- A part of what a row leads to: its place and range, when that is all that is there. -/
def rowView : List (C T) → Option (Ref × Option (Nat × Nat))
  | [.own q _ rng _] => cond q.p.isSome (some (q, rng)) none
  | _ => none
/-- What a row leads to is taken out of its array. -/
def takeRow (q : Ref) (rng : Option (Nat × Nat)) (k : D T.U → M T α) : M T α := .getO q.r fun o => match o, q.p with
  | some (.arr t l ver nver .all pin), some (i, c) => cond (Nat.beq nver.n q.ver) (.br (decide (i < l.length)) (match (T.dget t (l.getD i (T.dflt t)))[c]? with
    | some (.arr t2 l2) => cut rng l2 fun l3 => .setO q.r (some (.arr t l ver nver.kill (.hole i) pin)) (k (.arr t2 l3))
    | _ => .fail) .fail) .fail
  | _, _ => .fail
def storeM (t : Nat) (a : C T) (v : V T) (k : M T α) : M T α :=
  match v.cells with
  | none => .fail
  | some vs => cond (Nat.beq vs.length (T.size t)) (match a with
    | .ptr q row col => .getO q.r fun o => match o with
      | some (.var cs) => cond (Nat.beq row 0 && Nat.ble (col + vs.length) cs.length) (.setO q.r (some (.var (putAt cs col vs))) k) .fail
      | some (.arr _ _ _ _ _ _) => (match rowView vs with
        | some (q', rng) => takeRow q' rng fun d => storeArr q row col (T.fix t [d]) true k
        | none => moveCs vs fun ds own => storeArr q row col (T.fix t ds) own k)
      | _ => .fail
    | _ => .fail) .fail

def offOf (T : Tbl) (t f : Nat) : Option Nat := match T.ty t with
  | .struct fs => (fs[f]?).map (·.1)
  | _ => none
def fieldAddrM (t : Nat) (a : C T) (f : Nat) (k : C T → M T α) : M T α :=
  match offOf T t f, a with
  | some off, .ptr q row col => k (.ptr q row (col + off))
  | some off, .rptr t' x col => k (.rptr t' x (col + off))
  | _, _ => .fail
def idx (n : Int) (len : Nat) (k : Nat → M T α) : M T α := .br (decide (0 ≤ n)) (.br (decide (n < (len : Int))) (k n.toNat) .fail) .fail
def indexAddrM (t : Nat) (x : C T) (n : Int) (k : C T → M T α) : M T α :=
  match T.ty t, x with
  | .slice e, .own q _ rng _ => refArr q fun t' l => cond (Nat.beq t' e) (match rng with
    | none => idx n l.length fun i => k (.ptr q i 0)
    | some (off, len) => .br (decide (off + len ≤ l.length)) (idx n len fun i => k (.ptr q (off + i) 0)) .fail) .fail
  | .slice e, .d (.arr t' l) => cond (Nat.beq t' e) (idx n l.length fun i => k (.rptr t' (l.getD i (T.dflt t')) 0)) .fail
  | .slice e, .ex t' l => cond (Nat.beq t' e) (idx n l.length fun i => k (.rptr t' (l.getD i (T.dflt t')) 0)) .fail
  | .arr m e, .ptr q row col => idx n m fun i => k (.ptr q row (col + i * T.size e))
  | .arr m e, .rptr t' x col => idx n m fun i => k (.rptr t' x (col + i * T.size e))
  | _, _ => .fail

/-! ### Numbers -/
def binD (op : BinOp) (x y : D T.U) (k : D T.U → M T α) : M T α :=
  match op, x, y with
  | .shl, .int ki a, .int _ b => .br (decide (0 ≤ b)) (k (.int ki (ki.wrap (a * 2 ^ (min b.toNat ki.bits))))) .fail
  | .shr, .int ki a, .int _ b => .br (decide (0 ≤ b)) (k (.int ki (a.fdiv (2 ^ (min b.toNat ki.bits))))) .fail
  | op, .int ki a, .int kj b => if ki = kj then (match op with
    | .add => k (.int ki (ki.wrap (a + b)))
    | .sub => k (.int ki (ki.wrap (a - b)))
    | .mul => k (.int ki (ki.wrap (a * b)))
    | .quo => .br (decide (b = 0)) .fail (k (.int ki (ki.wrap (a.tdiv b))))
    | .rem => .br (decide (b = 0)) .fail (k (.int ki (a.tmod b)))
    | .and => k (.int ki (ki.wrap (BitVec.ofInt ki.bits a &&& BitVec.ofInt ki.bits b).toNat))
    | .or => k (.int ki (ki.wrap (BitVec.ofInt ki.bits a ||| BitVec.ofInt ki.bits b).toNat))
    | .xor => k (.int ki (ki.wrap (BitVec.ofInt ki.bits a ^^^ BitVec.ofInt ki.bits b).toNat))
    | .eql => k (.bool (decide (a = b)))
    | .neq => k (.bool (!decide (a = b)))
    | .lss => k (.bool (decide (a < b)))
    | .leq => k (.bool (decide (a ≤ b)))
    | .gtr => k (.bool (decide (a > b)))
    | .geq => k (.bool (decide (a ≥ b)))
    | _ => .fail) else .fail
  | .add, .str a, .str b => .br (decide (((a.size + b.size : Nat) : Int) ≤ 9223372036854775807)) (k (.str (a ++ b))) .fail
  | .eql, .str a, .str b => k (.bool (decide (a = b)))
  | .neq, .str a, .str b => k (.bool (!decide (a = b)))
  | .lss, .str a, .str b => k (.bool (Op.bytesLess a.toList b.toList))
  | _, _, _ => .fail
def eqD : D T.U → D T.U → Option Bool
  | .int ki a, .int kj b => if ki = kj then some (decide (a = b)) else none
  | .str a, .str b => some (decide (a = b))
  | .bool a, .bool b => some (a == b)
  | _, _ => none
def eqDs : List (D T.U) → List (D T.U) → Option Bool
  | [], [] => some true
  | [x], [y] => eqD x y
  | x :: xs, y :: ys => match eqD x y, eqDs xs ys with
    | some a, some b => some (a && b)
    | _, _ => none
  | _, _ => none
/-- Cells of the kinds that a type's cells have. -/
def shaped : List Value → List (D T.U) → Bool
  | [], [] => true
  | .bool _ :: vs, .bool _ :: ds => shaped vs ds
  | .int k _ :: vs, .int k' _ :: ds => (if k = k' then true else false) && shaped vs ds
  | .string _ :: vs, .str _ :: ds => shaped vs ds
  | _, _ => false
def csD : List (C T) → Option (List (D T.U))
  | [] => some []
  | .d d :: r => (csD r).map (d :: ·)
  | _ => none
def binM (op : BinOp) (t : Nat) (x y : V T) (k : V T → M T α) : M T α :=
  match op, x, y with
  | .eql, .one .nptr, .one .nptr => (match T.ty t with
    | .ptr _ => k (.one (.d (.bool true)))
    | _ => .fail)
  | .neq, .one .nptr, .one .nptr => (match T.ty t with
    | .ptr _ => k (.one (.d (.bool false)))
    | _ => .fail)
  | .eql, .one (.ptr _ _ _), .one .nptr => (match T.ty t with
    | .ptr _ => k (.one (.d (.bool false)))
    | _ => .fail)
  | .neq, .one (.ptr _ _ _), .one .nptr => (match T.ty t with
    | .ptr _ => k (.one (.d (.bool true)))
    | _ => .fail)
  | .eql, .one (.d (.bool a)), .one (.d (.bool b)) => (match T.ty t with
    | .bool => k (.one (.d (.bool (a == b))))
    | _ => .fail)
  | .neq, .one (.d (.bool a)), .one (.d (.bool b)) => (match T.ty t with
    | .bool => k (.one (.d (.bool (!(a == b)))))
    | _ => .fail)
  | op, .one (.d a), .one (.d b) => binD op a b fun d => k (.one (.d d))
  | op, .agg a, .agg b => cond (T.ceq t) (match csD a, csD b with
    | some a, some b => cond (shaped (T.zero t) a && shaped (T.zero t) b) (match op, eqDs a b with
      | .eql, some r => k (.one (.d (.bool r)))
      | .neq, some r => k (.one (.d (.bool (!r))))
      | _, _ => .fail) .fail
    | _, _ => .fail) .fail
  | _, _, _ => .fail
def unM (op : UnOp) (x : V T) (k : V T → M T α) : M T α :=
  match op, x with
  | .not, .one (.d (.bool b)) => k (.one (.d (.bool (!b))))
  | .neg, .one (.d (.int ki n)) => k (.one (.d (.int ki (ki.wrap (0 - n)))))
  | _, _ => .fail
end Go.Sm
end

section
set_option linter.unusedVariables false
namespace Go.Sm
variable {T : Tbl} {α : Type}

/-! ### Slices -/
def lenM (t : Nat) (x : C T) (k : Nat → M T α) : M T α :=
  match T.ty t, x with
  | .slice _, .d .nil => k 0
  | .slice _, .d (.arr _ l) => k l.length
  | .str, .d (.str s) => k s.size
  | .slice _, .ex _ l => k l.length
  | .slice _, .own q _ none _ => refArr q fun _ l => k l.length
  | .slice _, .own q _ (some (off, len)) _ => refArr q fun _ l => .br (decide (off + len ≤ l.length)) (k len) .fail
  | .map _ _, .map r => .getO r fun o => match o with
    | some (.map _ _ l) => k l.length
    | _ => .fail
  | _, _ => .fail

/-- The elements of a slice to be copied on: their list; whether what they lead to is now the taker's own (what was the giver's own is given away where it leads on). -/
def elemsM (e : Nat) (c : C T) (k : List (T.U e) → Bool → M T α) : M T α :=
  cond (flat T e) (asArr e c fun l => k l true) (match c with
    | .d .nil => k [] true
    | .d (.arr t l) => withL e t l fun l => k l false
    | .own q _ rng _ => .getO q.r fun o => (match o, q.p with
      | some (.arr t l ver nver .all false), none => cond (Nat.beq ver q.ver) (cond rng.isNone (cut rng l fun l => withL e t l fun l => .setO q.r (some .dead) (k l true))
          (.setO q.r (some (.arr t l ver nver.kill (.upto 0) false)) (cut rng l fun l => withL e t l fun l => k l false))) .fail
      | some (.arr t l ver _ (.upto 0) false), none => cond (Nat.beq ver q.ver) (cut rng l fun l => withL e t l fun l => k l false) .fail
      | _, _ => .fail)
    | _ => .fail)
def depOf (own : Bool) : Dep := cond own .all (.upto 0)
def roomM (e n : Nat) (k : M T α) : M T α := cond (Nat.ble 1 (T.bytes e) && Nat.ble 1 (T.size e)) (.br (decide (n * T.bytes e ≤ 140737488355328)) k .fail) .fail

/-- Elements are laid behind a slice. -/
def appendB (d : Nat) (e : Nat) (x : C T) (ys : List (T.U e)) (own : Bool) (k : C T → M T α) : M T α :=
  match x with
  | .d .nil => roomM e ys.length (newO (8 * d) (.arr e ys 0 0 (depOf own) false) (k (.own ⟨8 * d, 0, none⟩ e none false)))
  | .ex t l => cond (flat T e) (withL e t l fun l => .br (!ys.isEmpty) (roomM e (l ++ ys).length (newO (8 * d) (.arr e (l ++ ys) 0 0 .all false) (k (.own ⟨8 * d, 0, none⟩ e none false)))) .fail) .fail
  | .own q _ rng false => .getO q.r fun o => (match o with
    | some (.arr t l ver nver dep pin) => (match q.p with
      | none => cond (Nat.beq ver q.ver && !pin) (withL e t l fun l => cut rng l fun l =>
          (match dep, l, own with
          | .all, l, true => roomM e (l ++ ys).length (.setO q.r (some (.arr e (l ++ ys) (ver + 1) nver.kill .all false)) (k (.own ⟨q.r, ver + 1, none⟩ e none false)))
          | .all, [], false => roomM e ys.length (.setO q.r (some (.arr e ys (ver + 1) nver.kill (.upto 0) false)) (k (.own ⟨q.r, ver + 1, none⟩ e none false)))
          | .all, l, false => cond rng.isNone (roomM e (l ++ ys).length (.setO q.r (some (.arr e l ver nver.kill (.upto 0) false)) (.setO q.r (some (.arr e (l ++ ys) (ver + 1) nver.kill.kill (.upto 0) false)) (k (.own ⟨q.r, ver + 1, none⟩ e none false))))) .fail
          | .upto 0, l, false => cond rng.isNone (roomM e (l ++ ys).length (.setO q.r (some (.arr e (l ++ ys) (ver + 1) nver.kill (.upto 0) false)) (k (.own ⟨q.r, ver + 1, none⟩ e none false)))) .fail
          | _, _, _ => .fail)) .fail
      | some (i, c) => cond (Nat.beq nver.n q.ver && flat T e && Nat.beq (arrCount T t) 1) (.br (decide (i < l.length)) (match dep, (T.dget t (l.getD i (T.dflt t)))[c]? with
        | .all, some (.arr t2 l2) => withL e t2 l2 fun l2 => cut rng l2 fun l2 => roomM e (l2 ++ ys).length
            (.setO q.r (some (.arr t l ver nver.kill (.hole i) pin)) (newO (8 * d) (.arr e (l2 ++ ys) 0 0 .all false) (k (.own ⟨8 * d, 0, none⟩ e none false))))
        | _, _ => .fail) .fail) .fail)
    | _ => .fail)
  | _ => .fail

def appendM (d : Nat) (e : Nat) (x : C T) (y : C T) (k : C T → M T α) : M T α := elemsM e y fun ys own => appendB d e x ys own k

/-- The cells of the parts of a literal, each at its place; what is not told is the zero value's. -/
def fillM (places : Nat → Option (Nat × Nat)) (cs : List (C T)) : List (Nat × V T) → (List (C T) → M T α) → M T α
  | [], k => k cs
  | (i, v) :: r, k => match places i, v.cells with
    | some (off, size), some vs => cond (Nat.beq vs.length size && Nat.ble (off + vs.length) cs.length) (fillM places (putAt cs off vs) r k) .fail
    | _, _ => .fail
def zeroCs (t : Nat) : Option (List (C T)) := toCs (T.zero t)
def partsM : List (Nat × Operand) → (List (Nat × V T) → M T α) → M T α
  | [], k => k []
  | (i, x) :: r, k => evV x fun v => partsM r fun vs => k ((i, v) :: vs)
def buildM (t : Nat) (parts : List (Nat × Operand)) (k : V T → M T α) : M T α :=
  match T.ty t, zeroCs (T := T) t with
  | .struct fs, some z => cond (Nat.ble 1 (T.size t)) (partsM parts fun vs => fillM (fun i => (fs[i]?).map fun f => (f.1, T.size f.2)) z vs fun cs => k (.agg cs)) .fail
  | .arr _ e, some z => cond (Nat.ble 1 (T.size t) && Nat.ble 1 (T.size e)) (partsM parts fun vs => fillM (fun i => some (i * T.size e, T.size e)) z vs fun cs => k (.agg cs)) .fail
  | _, _ => .fail
def elemOf (e : Nat) (v : V T) (k : T.U e → Bool → M T α) : M T α :=
  match v.cells with
  | some cs => cond (Nat.beq cs.length (T.size e)) (moveCs cs fun ds own => (match T.dset e (T.fix e ds) with
    | some x => k x own
    | none => .fail)) .fail
  | none => .fail
/-- A slice's literal: all its elements are told, in order. -/
def elemsOf (e : Nat) : List (Nat × V T) → Nat → (List (T.U e) → Bool → M T α) → M T α
  | [], _, k => k [] true
  | (i, v) :: r, n, k => cond (Nat.beq i n) (elemOf e v fun x own => elemsOf e r (n + 1) fun xs owns => k (x :: xs) (own && owns)) .fail
def buildSliceM (d t len : Nat) (parts : List (Nat × Operand)) (k : C T → M T α) : M T α :=
  match T.ty t with
  | .slice e => cond (Nat.beq parts.length len && Nat.ble (len * T.size e) 16777216 && Nat.ble 1 (T.size e)) (partsM parts fun vs => elemsOf e vs 0 fun xs own =>
      newO (8 * d) (.arr e xs 0 0 (depOf own) false) (k (.own ⟨8 * d, 0, none⟩ e none false))) .fail
  | _ => .fail
def makeSliceM (d t : Nat) (n c : Int) (k : C T → M T α) : M T α :=
  match T.ty t with
  | .slice e => cond (Nat.ble 1 (T.size e) && !(T.dget e (T.dflt e)).any D.isFn) (.br (decide (0 ≤ n)) (.br (decide (n ≤ c)) (.br (decide (c ≤ 9223372036854775807 ∧ c * (T.bytes e : Int) ≤ 281474976710656)) (
      newO (8 * d) (.arr e (List.replicate n.toNat (T.dflt e)) 0 0 .all false) (k (.own ⟨8 * d, 0, none⟩ e none false))) .fail) .fail) .fail) .fail
  | _ => .fail

def optM (x : Option Operand) (k : Option Int → M T α) : M T α :=
  match x with
  | none => k none
  | some x => evInt x fun _ n => k (some n)
/-- The bounds of a slice expression. -/
def boundsM (len : Nat) (lo hi : Option Int) (k : Nat → Nat → M T α) : M T α :=
  match lo, hi with
  | none, none => k 0 len
  | none, some h => .br (decide (0 ≤ h)) (.br (decide (h ≤ (len : Int))) (k 0 h.toNat) .fail) .fail
  | some l, none => .br (decide (0 ≤ l)) (.br (decide (l ≤ (len : Int))) (k l.toNat len) .fail) .fail
  | some l, some h => .br (decide (0 ≤ h)) (.br (decide (h ≤ (len : Int))) (.br (decide (0 ≤ l)) (.br (decide (l ≤ h)) (k l.toNat h.toNat) .fail) .fail) .fail) .fail
def cutL {β : Type} (l : List β) (lo hi : Option Int) : List β :=
  match lo, hi with
  | none, none => l
  | none, some h => l.take h.toNat
  | some a, none => l.drop a.toNat
  | some a, some h => (l.take h.toNat).drop a.toNat
def sliceM (t : Nat) (x : C T) (lo hi mx : Option Int) (k : C T → M T α) : M T α :=
  match T.ty t, x with
  | .str, .d (.str s) => (match mx with
    | none => boundsM s.size lo hi fun l h => k (.d (.str (s.extract l h)))
    | some _ => .fail)
  | .slice e, .d .nil => boundsM 0 lo hi fun _ _ => (match mx with
    | none => k (.d .nil)
    | some _ => .fail)
  | .slice e, .d (.arr t' l) => cond (Nat.beq t' e) (boundsM l.length lo hi fun _ h => (match mx, hi with
    | none, _ => k (.d (.arr t' (cutL l lo hi)))
    | some m, some _ => .br (decide (m = (h : Int))) (k (.ex t' (cutL l lo hi))) .fail
    | _, _ => .fail)) .fail
  | .slice e, .ex t' l => cond (Nat.beq t' e) (boundsM l.length lo hi fun _ h => (match mx, hi with
    | none, _ => k (.d (.arr t' (cutL l lo hi)))
    | some m, some _ => .br (decide (m = (h : Int))) (k (.ex t' (cutL l lo hi))) .fail
    | _, _ => .fail)) .fail
  | .slice e, .own q e' rng ex => (match mx with
    | none => refArr q fun t' l => cond (Nat.beq t' e) (match rng with
      | none => boundsM l.length lo hi fun a h => k (.own q e' (some (a, h - a)) false)
      | some (off, len) => .br (decide (off + len ≤ l.length)) (boundsM len lo hi fun a h => k (.own q e' (some (off + a, h - a)) false)) .fail) .fail
    | some _ => .fail)
  | _, _ => .fail

/-- Cells of data as an array's rows. -/
def arrOfCells (e : Nat) : List (C T) → Option (List (T.U e))
  | [] => some []
  | .d d :: cs => (match T.dset e [d], arrOfCells e cs with
    | some x, some l => some (x :: l)
    | _, _ => none)
  | _ :: _ => none
/-- A variable that is an array becomes a slice: it never changes from here on. -/
def slicePtr (t : Nat) (q : Ref) (row col : Nat) (k : C T → M T α) : M T α :=
  match T.ty t with
  | .arr n e => cond (Nat.beq (T.size e) 1 && Nat.beq row 0 && Nat.beq col 0) (.getO q.r fun o => match o with
    | some (.var cs) => (match arrOfCells e cs with
      | some l => cond (Nat.beq l.length n) (.setO q.r (some .dead) (k (.d (.arr e l)))) .fail
      | none => .fail)
    | _ => .fail) .fail
  | _ => .fail
def sliceP (t : Nat) (x : C T) (lo hi mx : Option Int) (k : C T → M T α) : M T α :=
  match x with
  | .ptr q row col => (match lo, hi, mx with
    | none, none, none => slicePtr t q row col k
    | _, _, _ => .fail)
  | c => sliceM t c lo hi mx k

def indexM (t : Nat) (x : V T) (n : Int) (k : V T → M T α) : M T α :=
  match T.ty t, x with
  | .str, .one (.d (.str s)) => idx n s.size fun i => k (.one (.d (.int .u8 (byteAt s i))))
  | .arr m e, .agg cs => idx n m fun i => (let ds := takeAt cs (i * T.size e) (T.size e); cond (Nat.beq ds.length (T.size e)) (toVal (isAgg T e) ds k) .fail)
  | _, _ => .fail
def fieldM (t : Nat) (x : V T) (f : Nat) (k : V T → M T α) : M T α :=
  match T.ty t, x with
  | .struct fs, .agg cs => (match fs[f]? with
    | some (off, ft) => (let ds := takeAt cs off (T.size ft); cond (Nat.beq ds.length (T.size ft)) (toVal (isAgg T ft) ds k) .fail)
    | none => .fail)
  | _, _ => .fail

/-! ### Variables -/
def allocM (d e : Nat) (k : C T → M T α) : M T α :=
  match zeroCs (T := T) e with
  | some cs => newO (8 * d) (.var cs) (k (.ptr ⟨8 * d, 0, none⟩ 0 0))
  | none => .fail
def boxM (d e : Nat) (v : V T) (k : C T → M T α) : M T α :=
  match v.cells with
  | some cs => newO (8 * d) (.var cs) (k (.ptr ⟨8 * d, 0, none⟩ 0 0))
  | none => .fail

/-! ### Maps: their keys are whole numbers -/
def numOf : List (D T.U) → Int
  | .int _ n :: _ => n
  | _ => 0
def mget (kt et : Nat) (l : List (T.U kt × T.U et)) (n : Int) : Option (T.U et) := (l.find? fun e => decide (n = numOf (T.dget kt e.1))).map (·.2)
def mput (kt et : Nat) (l : List (T.U kt × T.U et)) (n : Int) (x : T.U kt) (v : T.U et) : List (T.U kt × T.U et) :=
  (l.findIdx? fun e => decide (n = numOf (T.dget kt e.1))).elim (l ++ [(x, v)]) fun i => l.set i (x, v)
def withM (kt et kt' et' : Nat) (l : List (T.U kt' × T.U et')) (k : List (T.U kt × T.U et) → M T α) : M T α :=
  if h : kt' = kt then if g : et' = et then k (h ▸ g ▸ l) else .fail else .fail
def V.isAgg : V T → Bool
  | .agg _ => true
  | _ => false
def makeMapM (d t : Nat) (k : C T → M T α) : M T α :=
  match T.ty t with
  | .map kt et => newO (8 * d) (.map kt et []) (k (.map (8 * d)))
  | _ => .fail
def lookupM (t : Nat) (x : C T) (ki : IntKind) (n : Int) (ok : Bool) (k : V T → M T α) : M T α :=
  match T.ty t, x with
  | .map kt et, .map r => (match T.ty kt with
    | .int kj => if ki = kj then .getO r fun o => (match o with
      | some (.map kt' et' l) => withM kt et kt' et' l fun l =>
          cond (flat T et && Nat.ble 1 (T.size et)) (cond ok (k (.tup [(isAgg T et, (T.dget et ((mget kt et l n).getD (T.dflt et))).map ofD), (false, [.d (.bool (mget kt et l n).isSome)])]))
            (toVal (isAgg T et) ((T.dget et ((mget kt et l n).getD (T.dflt et))).map ofD) k)) .fail
      | _ => .fail) else .fail
    | _ => .fail)
  | _, _ => .fail
def mapUpdateM (t : Nat) (x : C T) (ki : IntKind) (n : Int) (v : V T) (k : M T α) : M T α :=
  match T.ty t, x, v.cells with
  | .map kt et, .map r, some cs => (match T.ty kt with
    | .int kj => if ki = kj then (match T.dset kt [.int ki n], csD cs with
      | some kx, some ds => (match T.dset et ds with
        | some y => cond (flat T et && (v.isAgg == isAgg T et)) (.getO r fun o => (match o with
          | some (.map kt' et' l) => withM kt et kt' et' l fun l => .setO r (some (.map kt et (mput kt et l n kx y))) k
          | _ => .fail)) .fail
        | none => .fail)
      | _, _ => .fail) else .fail
    | _ => .fail)
  | _, _, _ => .fail

/-! ### Calls -/
def memb (r : Nat) (l : List Nat) : Bool := l.any (Nat.beq r)
def rootC : C T → List Nat
  | .own q _ _ _ => [q.r]
  | _ => []
def rootCs : List (C T) → List Nat
  | [] => []
  | c :: r => rootC c ++ rootCs r
/-- What a pointer leads to, and where that lies. -/
def ptrView (e : Nat) (a : C T) (k : T.U e → List Nat → M T α) : M T α :=
  match a with
  | .rptr t x col => cond (Nat.beq col 0) (withU e t x fun x => k x []) .fail
  | .ptr q row col => .getO q.r fun o => (match o, q.p with
    | some (.var cs), _ => cond (Nat.beq row 0 && Nat.ble (col + T.size e) cs.length) (viewCs (takeAt cs col (T.size e)) fun ds => (match T.dset e (T.fix e ds) with
      | some x => k x (q.r :: rootCs (takeAt cs col (T.size e)))
      | none => .fail)) .fail
    | some (.arr t l ver nver dep _), none => cond (Nat.beq ver q.ver && Nat.beq col 0) (.br (decide (row < l.length)) (cond (flat T t) (withU e t (l.getD row (T.dflt t)) fun x => k x [q.r]) .fail) .fail) .fail
    | _, _ => .fail)
  | _ => .fail
def roC (ty : Nat) (c : C T) (k : A T → List Nat → M T α) : M T α :=
  match (T.ty ty).to? with
  | some e => (match c with
    | .nptr => k .nptr []
    | c => ptrView e c fun x ro => k (.ptr e x) ro)
  | none => viewC c fun d => k (.val false (T.fix ty [d])) (rootC c)
def capsM : List Nat → List (C T) → (List (A T) → List Nat → M T α) → M T α
  | [], [], k => k [] []
  | t :: ts, c :: cs, k => (match c with
    | .nptr => .fail
    | c => roC t c fun a ro => capsM ts cs fun as ro' => k (a :: as) (ro ++ ro'))
  | _, _, _ => .fail
/-- An array lent to a callee: what referred to its rows does so no more. -/
def lendC (p : D T.U) (c : C T) (rw : List Nat) (k : D T.U → List Nat → M T α) : M T α :=
  match c with
  | .d .nil => (match p with
    | .arr t _ => k (.arr t []) rw
    | _ => .fail)
  | .own q _ none _ => .getO q.r fun o => (match o, q.p with
    | some (.arr t l ver nver .all pin), none => cond (Nat.beq ver q.ver && !memb q.r rw) (.setO q.r (some (.arr t l ver nver.kill (.upto 0) pin)) (k (.arr t l) (q.r :: rw))) .fail
    | some (.arr t l ver nver .all pin), some (i, c) => cond (Nat.beq nver.n q.ver && !memb q.r rw && Nat.beq (arrCount T t) 1) (.br (decide (i < l.length)) (match (T.dget t (l.getD i (T.dflt t)))[c]? with
      | some (.arr t2 l2) => .setO q.r (some (.arr t l ver nver (.hole i) pin)) (k (.arr t2 l2) (q.r :: rw))
      | _ => .fail) .fail) .fail
    | _, _ => .fail)
  | .own _ _ _ _ => .fail
  | .ex _ _ => .fail
  | .d (.arr _ _) => .fail
  | .d (.fn _ _) => .fail
  | .d d => k d rw
  | _ => .fail
def lendCs : List (D T.U) → List (C T) → List Nat → (List (D T.U) → List Nat → M T α) → M T α
  | _, [], rw, k => k [] rw
  | p :: ps, c :: r, rw, k => lendC p c rw fun d rw => lendCs ps r rw fun ds rw => k (d :: ds) rw
  | [], _ :: _, _, _ => .fail
/-- rw: what is lent or given away so far. Handed on: what is only read of this argument; what is lent. -/
def argM (ty : Nat) (mode : Mode) (v : V T) (rw : List Nat) (k : A T → List Nat → List Nat → M T α) : M T α :=
  match mode, v with
  | .ro, .one (.fn f caps) => cond (Nat.blt f SLF) (capsM (T.cap f) caps fun as ro => k (.fn f as) ro rw) (cond (Nat.ble SLP f) (cond (Nat.blt f SLB) (k (.fn f []) [] rw) .fail) .fail)
  | .ro, .one c => roC ty c fun a ro => k a ro rw
  | .ro, .agg cs => viewCs cs fun ds => k (.val true (T.fix ty ds)) (rootCs cs) rw
  | .mv, .one c => moveC c fun d own => cond own (k (.val false (T.fix ty [d])) [] (rootC c ++ rw)) .fail
  | .mv, .agg cs => moveCs cs fun ds own => cond own (k (.val true (T.fix ty ds)) [] (rootCs cs ++ rw)) .fail
  | .rws, .one (.ptr q row 0) => (match (T.ty ty).to? with
    | some e => .getO q.r fun o => (match o, q.p with
      | some (.arr t l ver nver .all pin), none => cond (Nat.beq ver q.ver && !memb q.r rw && Nat.beq t e) (.br (decide (row < l.length)) (.setO q.r (some (.arr t l ver nver.kill (.upto 0) pin)) (k (.pix t l row) [] (q.r :: rw))) .fail) .fail
      | _, _ => .fail)
    | none => .fail)
  | .rws, .one c => lendCs (T.dget ty (T.dflt ty)) [c] rw fun ds rw => k (.val false ds) [] rw
  | .rws, .agg cs => lendCs (T.dget ty (T.dflt ty)) cs rw fun ds rw => k (.val true ds) [] rw
  | .rwp, .one (.ptr q 0 0) => (match (T.ty ty).to? with
    | some e => .getO q.r fun o => (match o with
      | some (.var cs) => cond (!memb q.r rw && !memb q.r (rootCs cs)) (moveCs cs fun ds own => cond own (match T.dset e (T.fix e ds) with
        | some x => k (.ptr e x) [] (q.r :: (rootCs cs ++ rw))
        | none => .fail) .fail) .fail
      | _ => .fail)
    | _ => .fail)
  | .rwv, .one (.ptr q 0 0) => (match (T.ty ty).to? with
    | some e => .getO q.r fun o => (match o with
      | some (.var cs) => cond (!memb q.r rw) (match csD cs with
        | some ds => (match T.dset e (T.fix e ds) with
          | some x => k (.ptr e x) [] (q.r :: rw)
          | none => .fail)
        | none => .fail) .fail
      | _ => .fail)
    | _ => .fail)
  | _, _ => .fail
def apartL (a b : List Nat) : Bool := a.all fun x => !memb x b
def argsM : List Nat → List Mode → List (V T) → List Nat → (List (A T) → List Nat → List Nat → M T α) → M T α
  | [], [], [], rw, k => k [] [] rw
  | t :: ts, m :: ms, v :: vs, rw, k => argM t m v rw fun a ro rw => argsM ts ms vs rw fun as ro' rw => cond (apartL ro rw) (k (a :: as) (ro ++ ro') rw) .fail
  | _, _, _, _, _ => .fail
/-- Data that came back, as a register has it: each array under a name of its own (8 d + n). -/
def backCs (d : Nat) (rk : RK) : List (D T.U) → Nat → (List (C T) → Nat → M T α) → M T α
  | [], n, k => k [] n
  | .arr t l :: ds, n, k => (match rk with
    | .ro => backCs d rk ds n fun cs n' => k (.d (.arr t l) :: cs) n'
    | .own => newO (8 * d + n) (.arr t l 0 0 .all false) (backCs d rk ds (n + 1) fun cs n' => k (.own ⟨8 * d + n, 0, none⟩ t none false :: cs) n')
    | .shal => newO (8 * d + n) (.arr t l 0 0 (.upto 0) false) (backCs d rk ds (n + 1) fun cs n' => k (.own ⟨8 * d + n, 0, none⟩ t none false :: cs) n'))
  | x :: ds, n, k => backCs d rk ds n fun cs n' => k (.d x :: cs) n'
def backV (d : Nat) (rk : RK) (x : RV T) (n : Nat) (k : Bool → List (C T) → Nat → M T α) : M T α :=
  match x with
  | .val ag ds => backCs d rk ds n fun cs n => k ag cs n
  | .ptr t x => (match rk with
    | .own => .fail
    | _ => newO (8 * d + n) (.var ((T.dget t x).map ofD)) (k false [.ptr ⟨8 * d + n, 0, none⟩ 0 0] (n + 1)))
def backVs (d : Nat) (rk : RK) : List (RV T) → Nat → (List (Bool × List (C T)) → Nat → M T α) → M T α
  | [], n, k => k [] n
  | x :: r, n, k => backV d rk x n fun ag cs n => backVs d rk r n fun xs n => k ((ag, cs) :: xs) n
/-- An array that comes back from its loan. -/
def gotC (c : C T) (os : List (Out T)) (k : List (Out T) → M T α) : M T α :=
  match c, os with
  | .own q _ _ _, .sl t l' :: os => .getO q.r fun o => (match o, q.p with
    | some (.arr t0 _ ver nver _ pin), none => cond (Nat.beq t0 t && Nat.beq ver q.ver) (.setO q.r (some (.arr t l' ver nver.kill .all pin)) (k os)) .fail
    | some (.arr t0 l0 ver nver (.hole h) pin), some (i, c) => cond (Nat.beq nver.n q.ver && Nat.beq (arrCount T t0) 1) (.br (decide (i = h)) (.br (decide (i < l0.length)) (match (T.dget t0 (l0.getD i (T.dflt t0)))[c]? with
      | some (.arr t2 _) => cond (Nat.beq t2 t) (match T.dset t0 (putAt (T.dget t0 (l0.getD i (T.dflt t0))) c [.arr t l']) with
        | some x => .setO q.r (some (.arr t0 (l0.set i x) ver nver .all pin)) (k os)
        | none => .fail) .fail
      | _ => .fail) .fail) .fail) .fail
    | _, _ => .fail)
  | .own _ _ _ _, _ => .fail
  | .d .nil, .sl _ _ :: os => k os
  | .d .nil, _ => .fail
  | _, os => k os
def gotCs : List (C T) → List (Out T) → (List (Out T) → M T α) → M T α
  | [], os, k => k os
  | c :: cs, os, k => gotC c os fun os => gotCs cs os k
def outM (d : Nat) (m : Mode) (v : V T) (os : List (Out T)) (n : Nat) (k : List (Out T) → Nat → M T α) : M T α :=
  match m, v, os with
  | .ro, _, os => k os n
  | .mv, _, os => k os n
  | .rws, .one (.ptr q _ 0), .sl t l' :: os => .getO q.r fun o => (match o, q.p with
    | some (.arr t0 l0 ver nver _ pin), none => cond (Nat.beq t0 t && Nat.beq ver q.ver) (.br (decide (l'.length = l0.length)) (.setO q.r (some (.arr t l' ver nver.kill .all pin)) (k os n)) .fail) .fail
    | _, _ => .fail)
  | .rws, .one c, os => gotC c os fun os => k os n
  | .rws, .agg cs, os => gotCs cs os fun os => k os n
  | .rwp, .one (.ptr q 0 0), .var e x :: os => .getO q.r fun o => (match o with
    | some (.var _) => backCs d .own (T.dget e x) n fun new n => .setO q.r (some (.var new)) (k os n)
    | _ => .fail)
  | .rwv, .one (.ptr q 0 0), .var e x :: os => .getO q.r fun o => (match o with
    | some (.var _) => .setO q.r (some (.var ((T.dget e x).map ofD))) (k os n)
    | _ => .fail)
  | _, _, _ => .fail
def outsM (d : Nat) : List Mode → List (V T) → List (Out T) → Nat → (Nat → M T α) → M T α
  | [], [], [], n, k => k n
  | m :: ms, v :: vs, os, n, k => outM d m v os n fun os n => outsM d ms vs os n k
  | _, _, _, _, _ => .fail
/-- What a result may share is changed no more. -/
def freezeM : List Nat → M T α → M T α
  | [], k => k
  | r :: rs, k => .getO r fun o => (match o with
    | some _ => .setO r (some .dead) (freezeM rs k)
    | none => .fail)
def Sig.shares (sg : Sig) : Bool := (match sg.rk with | .own => false | _ => true) || sg.modes.any fun m => match m with | .rwv => true | _ => false
/-- Only a call of a function that holds itself hands on the pointer to itself, as the last. -/
def lastOk (sf : Bool) (f : Nat) : List (A T) → Bool
  | [] => true
  | [.fn g _] => cond (Nat.ble SLP g) (sf && Nat.beq g (SLP + f)) true
  | _ :: r => lastOk sf f r
def callF (sf : Bool) (d : Nat) (f : Nat) (vs : List (V T)) (k : V T → M T α) : M T α :=
  argsM (T.sg f).tys (T.sg f).modes vs [] fun as ro _ => cond (lastOk sf f as) ((match (T.sg f).shares with
  | true => fun (m : M T α) => freezeM ro m
  | false => fun m => m) (.call f as fun res =>
  outsM d (T.sg f).modes vs res.outs 0 fun n => backVs d (T.sg f).rk res.rets n fun xs _ => match xs with
    | [(ag, cs)] => toVal ag cs k
    | xs => k (.tup xs))) .fail
def capVs : List (C T) → List (V T) := List.map .one
/-- An array all of whose rows have become its own: it is its own wholly. -/
def sealC (c : C T) (k : M T α) : M T α :=
  match c with
  | .own q _ _ _ => .getO q.r fun o => (match o, q.p with
    | some (.arr t l ver nver (.upto m) pin), none => .br (decide (l.length ≤ m)) (.setO q.r (some (.arr t l ver nver .all pin)) k) .fail
    | _, _ => k)
  | _ => k
def sealCs : List (C T) → M T α → M T α
  | [], k => k
  | c :: r, k => sealC c (sealCs r k)
def sealV (v : V T) (k : M T α) : M T α :=
  match v with
  | .one (.ptr q _ _) => .getO q.r fun o => (match o with
    | some (.var cs) => sealCs cs k
    | _ => k)
  | .one c => sealC c k
  | .agg cs => sealCs cs k
  | _ => k
def sealA (m : Mode) (v : V T) (k : M T α) : M T α :=
  match m with
  | .ro => k
  | .rwv => k
  | _ => sealV v k
def sealAs : List Mode → List (V T) → M T α → M T α
  | m :: ms, v :: vs, k => sealA m v (sealAs ms vs k)
  | _, _, k => k
def sealR (rk : RK) (v : V T) (k : M T α) : M T α :=
  match rk with
  | .own => sealV v k
  | _ => k
/-- What a row leads to, to be given away: it is taken out of its array. -/
def liftC (id : Nat) (c : C T) (k : C T → M T α) : M T α :=
  match c with
  | .own q t0 rng ex => (match q.p with
    | some _ => takeRow q rng fun d => (match d with
      | .arr t l => newO id (.arr t l 0 0 .all false) (k (.own ⟨id, 0, none⟩ t none false))
      | _ => .fail)
    | none => k (.own q t0 rng ex))
  | c => k c
def liftCs (id : Nat) : List (C T) → (List (C T) → M T α) → M T α
  | [], k => k []
  | c :: r, k => liftC id c fun c => liftCs id r fun cs => k (c :: cs)
def liftV (id : Nat) (v : V T) (k : V T → M T α) : M T α :=
  match v with
  | .one c => liftC id c fun c => k (.one c)
  | .agg cs => liftCs id cs fun cs => k (.agg cs)
  | v => k v
def liftA (id : Nat) (m : Mode) (v : V T) (k : V T → M T α) : M T α :=
  match m with
  | .mv => liftV id v k
  | _ => k v
def liftAs (id : Nat) : List Mode → List (V T) → (List (V T) → M T α) → M T α
  | m :: ms, v :: vs, k => liftA id m v fun v => liftAs id ms vs fun vs => k (v :: vs)
  | _, vs, k => k vs
def callM1 (sf : Bool) (d f : Nat) (caps : List (C T)) (vs : List (V T)) (k : V T → M T α) : M T α := liftAs (8 * d + 7) (T.sg f).modes (vs ++ capVs caps) fun vs => sealAs (T.sg f).modes vs (callF sf d f vs k)
/-- What a row leads to, lent as an object of its own, is put back. -/
abbrev STO : Nat := 2999999
def deepBack (q : Ref) (k : M T α) : M T α := .getO STO fun o => match o with
  | some (.arr t3 l3 ver2 _ .all false) => cond (Nat.beq ver2 0) (.setO STO (some .dead) (.getO q.r fun o => match o, q.p with
    | some (.arr t1 l1 ver nver (.hole h) pin), some (i, c) => cond (Nat.beq nver.n q.ver && Nat.beq (arrCount T t1) 1) (.br (decide (h = i)) (.br (decide (i < l1.length)) (match (T.dget t1 (l1.getD i (T.dflt t1)))[c]? with
      | some (.arr t4 l4) => withL t4 t3 l3 fun l3 => (match T.dset t1 (putAt (T.dget t1 (l1.getD i (T.dflt t1))) c [.arr t4 l3]) with
        | some x => .setO q.r (some (.arr t1 (l1.set i x) ver nver .all pin)) k
        | none => .fail)
      | _ => .fail) .fail) .fail) .fail
    | _, _ => .fail)) .fail
  | _ => .fail
/-- What leads on is stored into a row of what a row leads to: that is lent, written to, put back. -/
def deepM (t : Nat) (q : Ref) (row col : Nat) (v : C T) (k : M T α) : M T α := .getO q.r fun o => match o, q.p with
  | some (.arr t1 l1 ver nver .all pin), some (i, c) => cond (Nat.beq nver.n q.ver) (.br (decide (i < l1.length)) (match (T.dget t1 (l1.getD i (T.dflt t1)))[c]? with
    | some (.arr t2 l2) => .setO q.r (some (.arr t1 l1 ver nver (.hole i) pin)) (newO STO (.arr t2 l2 0 0 .all false) (moveCs [v] fun ds own => storeArr ⟨STO, 0, none⟩ row col (T.fix t ds) own (deepBack q k)))
    | _ => .fail) .fail) .fail
  | _, _ => .fail
def storeD (t : Nat) (a : C T) (v : V T) (k : M T α) : M T α :=
  match a, v with
  | .ptr q row col, .one (.own q' t' rng ex) => cond (q.p.isSome && !q'.p.isSome) (cond (Nat.beq (T.size t) 1) (deepM t q row col (.own q' t' rng ex) k) .fail) (storeM t a v k)
  | _, _ => storeM t a v k
def capR (cs : List ((u : Nat) × T.U u)) : List (C T) := cs.map fun c => .rptr c.1 c.2 0
/-- A function's value is called: each that it may be. -/
def callOpts (d : Nat) (vs : List (V T)) (k : V T → M T α) : List (Bool × Nat × List ((u : Nat) × T.U u)) → M T α
  | [] => .fail
  | (b, f, cs) :: r => .br b (callM1 false d f (capR cs) vs k) (callOpts d vs k r)
def callM (d : Nat) (fv : V T) (vs : List (V T)) (k : V T → M T α) : M T α :=
  match fv with
  | .one (.fn f caps) => cond (Nat.blt f SLF) (callM1 false d f caps vs k) (cond (Nat.blt f SLP && Nat.beq caps.length (T.cap (f - SLF)).length) (callM1 true d (f - SLF) (caps.dropLast ++ [.fn (f + SLF) caps]) vs k) .fail)
  | .one (.d (.fn t x)) => callOpts d vs k (T.fopt t x)
  | _ => .fail
end Go.Sm
end

section
set_option linter.unusedVariables false
namespace Go.Sm
variable {T : Tbl} {α β : Type}

def putM (dst : Option Nat) (v : V T) : M T Unit := match dst with
  | some d => .setR d v (.ret ())
  | none => .ret ()
/-- A list of bytes as a string. -/
def bytesStr (e : Nat) (l : List (T.U e)) : ByteArray := ⟨(l.map fun x => UInt8.ofNat (numOf (T.dget e x)).toNat).toArray⟩
def isU8 (T : Tbl) (t : Nat) : Bool := match T.ty t with | .int .u8 => true | _ => false
def convM (src dst : Nat) (x : C T) (k : C T → M T Unit) : M T Unit :=
  match T.ty src, T.ty dst, x with
  | .slice e, .str, x => cond (isU8 T e) (asArr e x fun l => k (.d (.str (bytesStr e l)))) .fail
  | .int _, .int kd, .d (.int _ n) => k (.d (.int kd (kd.wrap n)))
  | .str, .str, .d (.str s) => k (.d (.str s))
  | _, _, _ => .fail
/-- The bytes of a string as rows. -/
def strRows (e : Nat) (s : ByteArray) : List (T.U e) := s.data.toList.map fun b => (T.dset e [.int .u8 (b.toNat : Int)]).getD (T.dflt e)
def strBytesM (d : Option Nat) (e : Nat) (s : ByteArray) (k : C T → M T Unit) : M T Unit :=
  match d with
  | some d => cond (isU8 T e && Nat.beq (T.size e) 1) (newO (8 * d) (.arr e (strRows e s) 0 0 .all false) (k (.own ⟨8 * d, 0, none⟩ e none false))) .fail
  | none => .fail
/-- The bytes of a string are laid behind a slice of bytes. -/
def appendSM (d : Nat) (e : Nat) (x : C T) (s : ByteArray) (k : C T → M T Unit) : M T Unit := cond (isU8 T e && Nat.beq (T.size e) 1) (appendB d e x (strRows e s) true k) .fail
def builtinM (d : Option Nat) (b : Builtin) (ts : List Nat) (vs : List (V T)) : M T Unit :=
  match b, ts, vs with
  | .len, t :: _, [.one c] => lenM t c fun n => putM d (.one (.d (.int .i64 n)))
  | .append, [t, t'], [.one x, .one y] => (match d, T.ty t with
    | some i, .slice e => cond (Nat.beq t' t) (appendM i e x y fun c => putM d (.one c)) (match T.ty t', y with
      | .str, .d (.str b) => appendSM i e x b fun c => putM d (.one c)
      | _, _ => .fail)
    | _, _ => .fail)
  | .min, _, [.one (.d (.int ki a)), .one (.d (.int kj b))] => putM d (.one (.d (.int ki (if b < a then b else a))))
  | .max, _, [.one (.d (.int ki a)), .one (.d (.int kj b))] => putM d (.one (.d (.int ki (if b > a then b else a))))
  | .min, _, [.one (.d (.int ki a)), .one (.d (.int kj b)), .one (.d (.int kk c))] => putM d (.one (.d (.int ki (if c < (if b < a then b else a) then c else (if b < a then b else a)))))
  | .max, _, [.one (.d (.int ki a)), .one (.d (.int kj b)), .one (.d (.int kk c))] => putM d (.one (.d (.int ki (if c > (if b > a then b else a) then c else (if b > a then b else a)))))
  | _, _, _ => .fail
def elOk (T : Tbl) (t : Nat) : Bool := match T.ty t with
  | .slice e => Nat.ble 1 (T.size e)
  | .arr _ e => Nat.ble 1 (T.size e)
  | _ => true
def asOne : List (V T) → Option (List (C T))
  | [] => some []
  | .one (.fn _ _) :: _ => none
  | .one c :: r => (asOne r).map (c :: ·)
  | _ => none
def opM (o : Oper) : M T Unit :=
  match o.op with
  | .move x => evV x fun v => putM o.dst v
  | .assign x => evV x fun v => putM o.dst v
  | .pick c a b => evC c fun c => (match c with
    | .d (.bool t) => .br t (evV a fun v => putM o.dst v) (evV b fun v => putM o.dst v)
    | _ => .fail)
  | .alloc e => (match o.dst with
    | some d => cond (Nat.ble 1 (T.size e)) (allocM d e fun c => putM o.dst (.one c)) .fail
    | none => .fail)
  | .box e x => (match o.dst with
    | some d => evV x fun v => boxM d e v fun c => putM o.dst (.one c)
    | none => .fail)
  | .build t ps => buildM t ps.toList fun v => putM o.dst v
  | .buildSlice t len ps => (match o.dst with
    | some d => buildSliceM d t len ps.toList fun c => putM o.dst (.one c)
    | none => .fail)
  | .load t a => evC a fun a => loadM t a fun v => putM o.dst v
  | .store t a x => evC a fun a => evV x fun v => cond (Nat.ble 1 (T.size t)) (storeD t a v (putM o.dst .undef)) .fail
  | .nilCheck x => evC x fun c => (match c with
    | .ptr q i j => putM o.dst (.one (.ptr q i j))
    | .rptr t x j => putM o.dst (.one (.rptr t x j))
    | _ => .fail)
  | .binOp op t x y _ => evV x fun a => evV y fun b => binM op t a b fun v => putM o.dst v
  | .unOp op _ x => evV x fun a => unM op a fun v => putM o.dst v
  | .convert s t x => evC x fun c => (match T.ty s, T.ty t, c with
    | .str, .slice e, .d (.str b) => strBytesM o.dst e b fun c => putM o.dst (.one c)
    | _, _, c => convM s t c fun c => putM o.dst (.one c))
  | .makeFunc (.func f) first caps => (match first.toList with
    | [] => evVs caps.toList fun vs => (match asOne vs with
      | some cs => cond (Nat.blt f SLF) (putM o.dst (.one (.fn f cs))) .fail
      | none => .fail)
    | _ => .fail)
  | .makeSlice t n c => (match o.dst with
    | some d => evInt n fun _ n => evInt c fun _ c => makeSliceM d t n c fun c => putM o.dst (.one c)
    | none => .fail)
  | .slice t x lo hi mx => evC x fun c => optM lo fun lo => optM hi fun hi => optM mx fun mx => cond (elOk T t) (sliceP t c lo hi mx fun c => putM o.dst (.one c)) .fail
  | .makeMap t r => (match o.dst with
    | some d => optM r fun _ => makeMapM d t fun c => putM o.dst (.one c)
    | none => .fail)
  | .lookup t x i ok => evC x fun c => evInt i fun ki n => lookupM t c ki n ok fun v => putM o.dst v
  | .mapUpdate t x i y => evC x fun c => evInt i fun ki n => evV y fun v => mapUpdateM t c ki n v (putM o.dst .undef)
  | .insert t x i y => evC x fun c => evInt i fun ki n => evV y fun v => mapUpdateM t c ki n v (putM o.dst .undef)
  | .fieldAddr t x f => evC x fun c => fieldAddrM t c f fun c => putM o.dst (.one c)
  | .field t x f => evV x fun v => fieldM t v f fun v => putM o.dst v
  | .indexAddr t x i => evC x fun c => evInt i fun _ n => cond (elOk T t) (indexAddrM t c n fun c => putM o.dst (.one c)) .fail
  | .index t x i => evV x fun v => evInt i fun _ n => cond (elOk T t) (indexM t v n fun v => putM o.dst v) .fail
  | .extract x i => evV x fun v => (match v with
    | .tup xs => (match xs[i]? with
      | some (ag, cs) => toVal ag cs fun v => putM o.dst v
      | none => .fail)
    | _ => .fail)
  | .call c => (match c.callee with
    | .value f => (match o.dst with
      | some d => evV f fun fv => evVs c.args.toList fun vs => callM d fv vs fun v => putM o.dst v
      | none => .fail)
    | .builtin b => evVs c.args.toList fun vs => builtinM o.dst b c.argTypes.toList vs
    | _ => .fail)
  | _ => .fail
def itemM (ops : List Oper) (o : Oper) : M T Unit :=
  match o.guard with
  | none => opM o
  | some (j, want) => (match (ops[j]?).bind (·.dst) with
    | some g => .getR g fun v => (match v with
      | .skip => putM o.dst .skip
      | _ => .guard g fun b => cond (b == want) (opM o) (putM o.dst .skip))
    | none => .fail)

inductive Ex | normal | exit (id : Nat) | ret

section
variable {R : Type} (Φ : Nat → List (A T) → (Res T → Option R) → Option R)

def opsRun (ops : List Oper) : List Oper → St T → (St T → Option R) → Option R
  | [], s, K => K s
  | o :: r, s, K => (itemM ops o).run Φ s fun _ s => opsRun ops r s K

/-- A run that tells what it reads and writes. -/
def M.runF {α : Type} : M T α → St T → List Loc → List Loc → (α → St T → List Loc → List Loc → Option R) → Option R
  | .ret a, s, Rd, Wr, K => K a s Rd Wr
  | .fail, _, _, _, _ => none
  | .getR t k, s, Rd, Wr, K => (k (s.regs t)).runF s (.reg t :: Rd) Wr K
  | .setR t v k, s, Rd, Wr, K => k.runF (s.setR t v) Rd (.reg t :: Wr) K
  | .getO r k, s, Rd, Wr, K => (k (s.objs r)).runF s (.obj r :: Rd) Wr K
  | .setO r x k, s, Rd, Wr, K => k.runF (s.setO r x) Rd (.obj r :: Wr) K
  | .br b x y, s, Rd, Wr, K => cond b (x.runF s Rd Wr K) (y.runF s Rd Wr K)
  | .guard t k, s, Rd, Wr, K =>
    match s.regs t with
    | .one (.d (.bool b)) => cond b ((k true).runF (s.setR t (.one (.d (.bool true)))) (.reg t :: Rd) Wr K) ((k false).runF (s.setR t (.one (.d (.bool false)))) (.reg t :: Rd) Wr K)
    | _ => none
  | .call f as k, s, Rd, Wr, K => Φ f as fun res => (k res).runF s Rd Wr K

def Loc.beq : Loc → Loc → Bool
  | .reg a, .reg b => Nat.beq a b
  | .obj a, .obj b => Nat.beq a b
  | _, _ => false
def meets (a b : List Loc) : Bool := a.any fun x => b.any fun y => x.beq y
/-- May these two not change places? -/
def clash (a b : List Loc × List Loc) : Bool := meets a.2 b.1 || meets a.2 b.2 || meets b.2 a.1
/-- A set of numbers as a number. -/
def bitOn (m i : Nat) : Bool := Nat.beq (Nat.land 1 (Nat.shiftRight m i)) 1
/-- Which operations each one waits for, through others. -/
def ancOf (acc : List Nat) : List Edge → Nat
  | [] => 0
  | e :: r => cond (Region.binds .any e && Nat.blt e.on acc.length) (Nat.lor (Nat.lor (Nat.shiftLeft 1 e.on) ((acc[e.on]?).getD 0)) (ancOf acc r)) (ancOf acc r)
def ancs : List Oper → List Nat → List Nat
  | [], acc => acc
  | o :: r, acc => ancs r (acc ++ [ancOf acc o.after.toList])
/-- Each waits for earlier ones alone. -/
def back : List Oper → Nat → Bool
  | [], _ => true
  | o :: r, i => o.after.toList.all (fun e => !Region.binds .any e || Nat.blt e.on i) && back r (i + 1)
def orderedFrom (anc : List Nat) (i : Nat) (f : List Loc × List Loc) : List (List Loc × List Loc) → Nat → Bool
  | [], _ => true
  | g :: r, j => (!clash f g || bitOn ((anc[j]?).getD 0) i) && orderedFrom anc i f r (j + 1)
def ordered (anc : List Nat) : List (List Loc × List Loc) → Nat → Bool
  | [], _ => true
  | f :: r, i => orderedFrom anc i f r (i + 1) && ordered anc r (i + 1)
def opsRunF (ops : List Oper) : List Oper → St T → List (List Loc × List Loc) → (St T → List (List Loc × List Loc) → Option R) → Option R
  | [], s, fs, K => K s fs
  | o :: r, s, fs, K => (itemM ops o).runF Φ s [] [] fun _ s Rd Wr => opsRunF ops r s (fs ++ [(Rd, Wr)]) K

/-! ### What is let go: registers and objects that are no longer wanted -/
def renC (s : St T) (os : List Nat) : C T → C T
  | .own q t rng ex => cond (os.any (Nat.beq q.r)) (match s.objs q.r with
    | some (.arr _ _ ver nver _ _) => (match q.p with
      | none => cond (Nat.beq ver q.ver) (.own ⟨q.r, 0, q.p⟩ t rng ex) .undef
      | some _ => cond (Nat.beq nver.n q.ver) (.own ⟨q.r, 0, q.p⟩ t rng ex) .undef)
    | _ => .undef) .undef
  | .ptr q row col => cond (os.any (Nat.beq q.r)) (match s.objs q.r with
    | some (.arr _ _ ver nver _ _) => (match q.p with
      | none => cond (Nat.beq ver q.ver) (.ptr ⟨q.r, 0, q.p⟩ row col) .undef
      | some _ => cond (Nat.beq nver.n q.ver) (.ptr ⟨q.r, 0, q.p⟩ row col) .undef)
    | some (.var _) => .ptr ⟨q.r, 0, q.p⟩ row col
    | _ => .undef) .undef
  | .map r => cond (os.any (Nat.beq r)) (.map r) .undef
  | .d x => .d x
  | .ex t l => .ex t l
  | .rptr t x col => .rptr t x col
  | .nptr => .nptr
  | .fn f caps => .fn f (caps.map fun c => match c with
    | .d x => .d x
    | .rptr t x col => .rptr t x col
    | .ptr q row col => cond (os.any (Nat.beq q.r)) (match s.objs q.r with
      | some (.var _) => .ptr q row col
      | _ => .undef) .undef
    | _ => .undef)
  | .undef => .undef
def renV (s : St T) (os : List Nat) : V T → V T
  | .one c => .one (renC s os c)
  | .agg cs => .agg (cs.map (renC s os))
  | .tup xs => .tup (xs.map fun x => (x.1, x.2.map (renC s os)))
  | .undef => .undef
  | .skip => .skip
def renO (s : St T) (os : List Nat) : Option (Root T) → Option (Root T)
  | some (.var cs) => some (.var (cs.map (renC s os)))
  | some (.arr t l _ _ dep pin) => some (.arr t l 0 0 dep pin)
  | x => x
def lookR (t : Nat) : List (Nat × V T) → V T
  | [] => .undef
  | (u, v) :: r => cond (Nat.beq t u) v (lookR t r)
def lookO (t : Nat) : List (Nat × Option (Root T)) → Option (Root T)
  | [] => none
  | (u, v) :: r => cond (Nat.beq t u) v (lookO t r)
/-- A state told by lists. -/
def mkSt (rs : List (Nat × V T)) (os : List (Nat × Option (Root T))) : St T := ⟨fun t => lookR t rs, fun r => lookO r os⟩
def norm (s : St T) (rs os : List Nat) : St T :=
  mkSt (rs.map fun t => (t, renV s os (s.regs t))) (os.map fun r => (r, renO s os (s.objs r)))

/-! ### Names: a slice's array gets the name that its place asks for; a nil slice an array of none -/
inductive Slot
  | reg (t : Nat) | cell (r i : Nat)
def swp (a b x : Nat) : Nat := cond (Nat.beq x a) b (cond (Nat.beq x b) a x)
def mapC0 (p : Nat → Nat) : C T → C T
  | .own q t rng ex => .own ⟨p q.r, q.ver, q.p⟩ t rng ex
  | .ptr q row col => .ptr ⟨p q.r, q.ver, q.p⟩ row col
  | .map r => .map (p r)
  | c => c
def mapC (p : Nat → Nat) : C T → C T
  | .fn f caps => .fn f (caps.map (mapC0 p))
  | c => mapC0 p c
def mapV (p : Nat → Nat) : V T → V T
  | .one c => .one (mapC p c)
  | .agg cs => .agg (cs.map (mapC p))
  | .tup xs => .tup (xs.map fun x => (x.1, x.2.map (mapC p)))
  | .undef => .undef
  | .skip => .skip
def mapO (p : Nat → Nat) : Option (Root T) → Option (Root T)
  | some (.var cs) => some (.var (cs.map (mapC p)))
  | x => x
def St.map (p : Nat → Nat) (s : St T) : St T := ⟨fun t => mapV p (s.regs t), fun x => mapO p (s.objs (p x))⟩
/-- The array r gets the name id. -/
def freeO : Option (Root T) → Bool
  | none => true
  | some (.arr _ _ _ _ _ pin) => !pin
  | some .dead => true
  | some _ => false
def freeV : Option (Root T) → Bool
  | some (.var _) => true
  | o => freeO o
def nameO (s : St T) (r id : Nat) : St T := cond (Nat.beq r id) s (match s.objs r with
  | some (.arr _ _ _ _ _ false) => cond (freeO (s.objs id)) (s.map (swp r id)) s
  | some (.var _) => cond (freeV (s.objs id) && (Nat.blt r BIG && Nat.blt id BIG)) (s.map (swp r id)) s
  | _ => s)
/-- All that refers to the whole of the array r becomes data. -/
def frzC (r ver : Nat) (d : D T.U) : C T → C T
  | .own q t rng ex => cond (Nat.beq q.r r && (Nat.beq q.ver ver && (q.p.isNone && rng.isNone))) (.d d) (.own q t rng ex)
  | c => c
def frzV (r ver : Nat) (d : D T.U) : V T → V T
  | .one c => .one (frzC r ver d c)
  | .agg cs => .agg (cs.map (frzC r ver d))
  | .tup xs => .tup (xs.map fun x => (x.1, x.2.map (frzC r ver d)))
  | .undef => .undef
  | .skip => .skip
def frzO (r ver : Nat) (d : D T.U) : Option (Root T) → Option (Root T)
  | some (.var cs) => some (.var (cs.map (frzC r ver d)))
  | x => x
/-- The array r changes no more. -/
def frzS (s : St T) (r : Nat) : St T := match s.objs r with
  | some (.arr t l ver _ dep false) => cond (depView dep) ⟨fun u => frzV r ver (.arr t l) (s.regs u), fun x => bif Nat.beq x r then some .dead else frzO r ver (.arr t l) (s.objs x)⟩ s
  | _ => s
def FRZ : Nat := 999999
/-- A slice's cell becomes data: its array changes no more; of nil, the empty list at elem's type. -/
def frzStep (s : St T) (sl : Slot) (el : Nat) : St T :=
  match sl with
  | .reg t => (match s.regs t with
    | .one (.d .nil) => s.setR t (.one (.d (.arr el [])))
    | .one (.own q _ _ _) => frzS s q.r
    | _ => s)
  | .cell r i => (match s.objs r with
    | some (.var cs) => (match cs[i]? with
      | some (.d .nil) => s.setO r (some (.var (cs.set i (.d (.arr el [])))))
      | some (.own q _ _ _) => frzS s q.r
      | _ => s)
    | _ => s)
def SHR : Nat := 999998
/-- What the rows of an array lead to changes no more. -/
def shrS (s : St T) (r : Nat) : St T := match s.objs r with
  | some (.arr t l ver nver .all false) => s.setO r (some (.arr t l ver nver.kill (.upto 0) false))
  | _ => s
def shrStep (s : St T) (sl : Slot) : St T :=
  match sl with
  | .reg t => (match s.regs t with
    | .one (.own q _ _ _) => shrS s q.r
    | _ => s)
  | .cell r i => (match s.objs r with
    | some (.var cs) => (match cs[i]? with
      | some (.own q _ _ _) => shrS s q.r
      | _ => s)
    | _ => s)
def FRV : Nat := 999997
/-- Each cell anew; the object r is let go. -/
def gV (g : C T → C T) : V T → V T
  | .one c => .one (g c)
  | .agg cs => .agg (cs.map g)
  | .tup xs => .tup (xs.map fun x => (x.1, x.2.map g))
  | .undef => .undef
  | .skip => .skip
def gO (g : C T → C T) : Option (Root T) → Option (Root T)
  | some (.var cs) => some (.var (cs.map g))
  | x => x
def gS (g : C T → C T) (s : St T) (r : Nat) : St T := ⟨fun u => gV g (s.regs u), fun x => bif Nat.beq x r then some .dead else gO g (s.objs x)⟩
/-- A pointer to the variable r leads to data. -/
def frvC0 (r e : Nat) (x : T.U e) : C T → C T
  | .ptr q row col => cond (Nat.beq q.r r && Nat.beq row 0) (.rptr e x col) (.ptr q row col)
  | c => c
def frvC (r e : Nat) (x : T.U e) : C T → C T
  | .fn f caps => .fn f (caps.map (frvC0 r e x))
  | c => frvC0 r e x c
/-- The variable r changes no more. -/
def frvS (s : St T) (r e : Nat) : St T := match s.objs r with
  | some (.var cs) => (match csD cs with
    | some ds => (match T.dset e (T.fix e ds) with
      | some x => gS (frvC r e x) s r
      | none => s)
    | none => s)
  | _ => s
def frvStep (s : St T) (sl : Slot) (e : Nat) : St T :=
  match sl with
  | .reg t => (match s.regs t with
    | .one (.ptr q _ _) => frvS s q.r e
    | _ => s)
  | _ => s
abbrev FRS : Nat := 999996
/-- A pointer to the variable r, in which a function lies that holds that pointer. -/
def frsC (r : Nat) (x : C T) : C T → C T
  | .ptr q row col => cond (Nat.beq q.r r && (Nat.beq row 0 && Nat.beq col 0)) x (.ptr q row col)
  | c => c
/-- The variable r changes no more: it holds a function that holds a pointer to it. -/
def frsS (s : St T) (r : Nat) : St T := match s.objs r with
  | some (.var [.fn f caps]) => (match caps.getLast? with
    | some (.ptr q 0 0) => cond (Nat.blt f SLF && Nat.beq q.r r) (gS (frsC r (.fn (SLP + f) (caps.dropLast ++ [.undef]))) s r) s
    | _ => s)
  | _ => s
def frsStep (s : St T) (sl : Slot) : St T :=
  match sl with
  | .reg t => (match s.regs t with
    | .one (.ptr q _ _) => frsS s q.r
    | _ => s)
  | _ => s
def matStep (s : St T) (m : Slot × Nat × Nat) : St T := cond (Nat.beq m.2.2 FRS) (frsStep s m.1) <| cond (Nat.beq m.2.2 FRV) (frvStep s m.1 m.2.1) <| cond (Nat.beq m.2.2 FRZ) (frzStep s m.1 m.2.1) <| cond (Nat.beq m.2.2 SHR) (shrStep s m.1) <|
  match m.1 with
  | .reg t => (match s.regs t with
    | .one (.d .nil) => (match s.objs m.2.1 with
      | none => (s.setO m.2.1 (some (.arr m.2.2 [] 0 0 .all false))).setR t (.one (.own ⟨m.2.1, 0, none⟩ m.2.2 none false))
      | some _ => s)
    | .one (.own q _ _ _) => nameO s q.r m.2.1
    | .one (.ptr q _ _) => nameO s q.r m.2.1
    | _ => s)
  | .cell r i => (match s.objs r with
    | some (.var cs) => (match cs[i]? with
      | some (.d .nil) => (match s.objs m.2.1 with
        | none => (s.setO m.2.1 (some (.arr m.2.2 [] 0 0 .all false))).setO r (some (.var (cs.set i (.own ⟨m.2.1, 0, none⟩ m.2.2 none false))))
        | some _ => s)
      | some (.own q _ _ _) => nameO s q.r m.2.1
      | _ => s)
    | _ => s)
structure An where
  mats : List (Slot × Nat × Nat)
  rs : List Nat
  os : List Nat
abbrev Ann := Nat → Option An
def prep (s : St T) : List (Slot × Nat × Nat) → St T
  | [] => s
  | m :: ms => prep (matStep s m) ms
def normA (s : St T) (a : An) : St T := norm (prep s a.mats) a.rs a.os
def annot (ann : Ann) (id : Nat) (s : St T) : St T := match ann id with
  | some a => normA s a
  | none => s
def firstRegion : Code → Option Nat
  | .region id _ _ => some id
  | .seq a b => match firstRegion a with
    | some i => some i
    | none => firstRegion b
  | .block _ c => firstRegion c
  | .loop c => firstRegion c
  | .cond _ a _ => firstRegion a
  | _ => none
/-- A state's wanted registers and objects, told by lists. -/
def toL0 (s : St T) (rs os : List Nat) : List (V T) × List (Option (Root T)) := (rs.map fun t => renV s os (s.regs t), os.map fun r => renO s os (s.objs r))
def toL (s : St T) (a : An) : List (V T) × List (Option (Root T)) := toL0 (prep s a.mats) a.rs a.os
/-- What a loop is about: what stays (C), its variables' type (X), how they lie, and one round of it, the way out (K) and the way on (J) told. -/
structure LSpec (T : Tbl) where
  C : Type
  X : Type
  an : An
  enc : C → X → List (V T) × List (Option (Root T))
  dec : List (V T) × List (Option (Root T)) → Option (C × X)
  b : {R : Type} → (Ex → St T → Option R) → C → X → (X → Option R) → Option R
def LSpec.st (sp : LSpec T) (c : sp.C) (x : sp.X) : St T := mkSt (sp.an.rs.zip (sp.enc c x).1) (sp.an.os.zip (sp.enc c x).2)
def loopId (c : Code) : Nat := match firstRegion c with
  | some id => id
  | none => 0
def exitKey (id : Nat) : Ex → Nat
  | .normal => 0
  | .ret => 2000000 + id
  | .exit j => (3 + j) * 1000000 + id
def exitNorm (ann : Ann) (id : Nat) (x : Ex) (s : St T) : St T := annot ann (exitKey id x) s

def ev (L : Nat → Option (LSpec T)) (ann : Ann) (n : Nat) : Code → St T → (Ex → St T → Option R) → Option R
  | .skip, s, K => K .normal s
  | .region id ops draw, s, K => cond draw
      (opsRunF Φ ops.toList ops.toList (annot ann id s) [] fun s fs => cond (ordered (ancs ops.toList []) fs 0 && back ops.toList 0) (K .normal s) none)
      (opsRun Φ ops.toList ops.toList (annot ann id s) fun s => K .normal s)
  | .seq a b, s, K => ev L ann n a s fun e s => match e with
    | .normal => ev L ann n b s K
    | e => K e s
  | .cond (.tmp t) x y, s, K => (match s.regs t with
    | .one (.d (.bool b)) => cond b (ev L ann n x (s.setR t (.one (.d (.bool true)))) K) (ev L ann n y (s.setR t (.one (.d (.bool false)))) K)
    | _ => none)
  | .cond (.const (.bool b)) x y, s, K => cond b (ev L ann n x s K) (ev L ann n y s K)
  | .block id c, s, K => ev L ann n c s fun e s => match e with
    | .exit j => cond (Nat.beq j id) (K .normal s) (K (.exit j) s)
    | e => K e s
  | .loop c, s, K => (match L (loopId c) with
    | some sp => (match sp.dec (toL s sp.an) with
      | some x => loopN (sp.b K x.1) n x.2
      | none => none)
    | none => none)
  | .exit id, s, K => K (.exit id) s
  | .ret, s, K => K .ret s
  | _, _, _ => none
end

/-! ### A function: how its parameters lie, how its results are told -/
/-- Data as a parameter's cells: each array an object of its own, from BIG + n on. -/
def inOwn {β : Type} (pin : Bool) : List (D T.U) → Nat → St T → (List (C T) → Nat → St T → β) → β
  | [], n, s, k => k [] n s
  | .arr t l :: ds, n, s, k => inOwn pin ds (n + 1) (s.setO (BIG + n) (some (.arr t l 0 0 .all pin))) fun cs n' s => k (.own ⟨BIG + n, 0, none⟩ t none false :: cs) n' s
  | d :: ds, n, s, k => inOwn pin ds n s fun cs n' s => k (.d d :: cs) n' s
def arrsN : List (D T.U) → Nat
  | [] => 0
  | .arr _ _ :: r => arrsN r + 1
  | _ :: r => arrsN r
def cap1 : A T → C T
  | .val false [d] => .d d
  | .ptr t x => .rptr t x 0
  | _ => .undef
def capIn (l : List (A T)) : List (C T) := l.map cap1
def mkV (ag : Bool) (cs : List (C T)) : V T := match ag, cs with
  | true, cs => .agg cs
  | false, [c] => .one c
  | _, _ => .undef
def inM {β : Type} (j : Nat) (m : Mode) (a : A T) (n : Nat) (s : St T) (k : Nat → St T → β) : β :=
  match m, a with
  | .ro, .val ag ds => k n (s.setR j (mkV ag (ds.map ofD)))
  | .ro, .ptr t x => k n (s.setR j (.one (.rptr t x 0)))
  | .ro, .nptr => k n (s.setR j (.one .nptr))
  | .ro, .fn f caps => cond (Nat.blt f SLF) (k n (s.setR j (.one (.fn f (capIn caps))))) (k n (s.setR j .undef))
  | .rws, .val ag ds => inOwn true ds n s fun cs n s => k n (s.setR j (mkV ag cs))
  | .rws, .pix t l i => k (n + 1) ((s.setO (BIG + n) (some (.arr t l 0 0 .all true))).setR j (.one (.ptr ⟨BIG + n, 0, none⟩ i 0)))
  | .mv, .val ag ds => inOwn false ds n s fun cs n s => k n (s.setR j (mkV ag cs))
  | .rwp, .ptr t x => inOwn false (T.dget t x) (n + 1) s fun cs n' s => k n' ((s.setO (BIG + n) (some (.var cs))).setR j (.one (.ptr ⟨BIG + n, 0, none⟩ 0 0)))
  | .rwv, .ptr t x => k (n + 1) ((s.setO (BIG + n) (some (.var ((T.dget t x).map ofD)))).setR j (.one (.ptr ⟨BIG + n, 0, none⟩ 0 0)))
  | _, _ => k n s
def entryS {β : Type} : Nat → List Mode → List (A T) → Nat → St T → (St T → β) → β
  | j, m :: ms, a :: as, n, s, k => inM j m a n s fun n s => entryS (j + 1) ms as n s k
  | _, _, _, _, s, k => k s
/-- What a function has captured, as its registers have it. -/
def capAt (s : St T) (i : Nat) : Option (C T) := match s.regs i with
  | .one (.fn _ _) => none
  | .one c => some c
  | _ => none
def capsAt (s : St T) : Nat → Nat → Option (List (C T))
  | _, 0 => some []
  | i, k + 1 => match capAt s i, capsAt s (i + 1) k with
    | some c, some cs => some (c :: cs)
    | _, _ => none
/-- The last argument's register, where it is the pointer to the variable that the function itself lies in. -/
def selfS (as : List (A T)) (s : St T) : St T := match as.getLast? with
  | some (.fn g _) => cond (Nat.ble SLP g && (Nat.blt (g - SLP) SLF && (Nat.ble 1 (T.cap (g - SLP)).length && Nat.ble (T.cap (g - SLP)).length as.length)))
    (match capsAt s (as.length - (T.cap (g - SLP)).length) ((T.cap (g - SLP)).length - 1) with
    | some cs => s.setR (as.length - 1) (.one (.fn g (cs ++ [.undef])))
    | none => s) s
  | _ => s
def resC (rk : RK) (c : C T) (k : D T.U → M T α) : M T α :=
  match rk with
  | .own => moveC c fun d own => cond own (k d) .fail
  | .shal => (match c with
    | .own q _ rng _ => .getO q.r fun o => (match o, q.p with
      | some (.arr t l ver _ dep _), none => cond (Nat.beq ver q.ver && depView dep) (cut rng l fun l => .setO q.r (some .dead) (k (.arr t l))) .fail
      | _, _ => .fail)
    | .d (.arr _ _) => .fail
    | .d d => k d
    | _ => .fail)
  | .ro => (match c with
    | .own q _ rng _ => refView q fun t l => cut rng l fun l => .setO q.r (some .dead) (k (.arr t l))
    | .d d => k d
    | .ex t l => k (.arr t l)
    | _ => .fail)
def resCs (rk : RK) : List (C T) → (List (D T.U) → M T α) → M T α
  | [], k => k []
  | c :: r, k => resC rk c fun d => resCs rk r fun ds => k (d :: ds)
/-- A result's value; ty: its type. -/
def resV (rk : RK) (ty : Nat) (v : V T) (k : RV T → M T α) : M T α :=
  match v with
  | .one (.ptr q 0 0) => (match (T.ty ty).to? with
    | some e => .getO q.r fun o => (match o with
      | some (.var cs) => (match csD cs with
        | some ds => (match T.dset e (T.fix e ds) with
          | some x => .setO q.r (some .dead) (k (.ptr e x))
          | none => .fail)
        | none => .fail)
      | _ => .fail)
    | _ => .fail)
  | .one c => resC rk c fun d => k (.val false (T.fix ty [d]))
  | .agg cs => resCs rk cs fun ds => k (.val true (T.fix ty ds))
  | _ => .fail
def retsM (rk : RK) : List Nat → List ResultVar → (List (RV T) → M T α) → M T α
  | [], [], k => k []
  | ty :: tys, .tmp t :: r, k => .getR t fun v => sealR rk v (resV rk ty v fun x => retsM rk tys r fun xs => k (x :: xs))
  | ty :: tys, .cell a t :: r, k => .getR a fun v => (match v with
    | .one c => loadM t c fun v => sealR rk v (resV rk ty v fun x => retsM rk tys r fun xs => k (x :: xs))
    | _ => .fail)
  | _, _, _ => .fail
def rwsOuts : List (D T.U) → Nat → (List (Out T) → Nat → M T α) → M T α
  | [], n, k => k [] n
  | .arr t0 _ :: ds, n, k => .getO (BIG + n) fun o => (match o with
    | some (.arr t l _ _ .all true) => cond (Nat.beq t t0) (.setO (BIG + n) (some .dead) (rwsOuts ds (n + 1) fun os n => k (.sl t l :: os) n)) .fail
    | _ => .fail)
  | _ :: ds, n, k => rwsOuts ds n k
def outOf (m : Mode) (a : A T) (n : Nat) (k : List (Out T) → Nat → M T α) : M T α :=
  match m, a with
  | .ro, _ => k [] n
  | .mv, .val _ ds => k [] (n + arrsN ds)
  | .rws, .val _ ds => rwsOuts ds n k
  | .rws, .pix t l _ => rwsOuts [.arr t l] n k
  | .rwp, .ptr t x => .getO (BIG + n) fun o => (match o with
    | some (.var cs) => cond (!memb (BIG + n) (rootCs cs)) (moveCs cs fun ds own => cond own (match T.dset t (T.fix t ds) with
      | some x' => .setO (BIG + n) (some .dead) (k [.var t x'] (n + 1 + arrsN (T.dget t x)))
      | none => .fail) .fail) .fail
    | _ => .fail)
  | .rwv, .ptr t _ => .getO (BIG + n) fun o => (match o with
    | some (.var cs) => (match csD cs with
      | some ds => (match T.dset t (T.fix t ds) with
        | some x' => .setO (BIG + n) (some .dead) (k [.var t x'] (n + 1))
        | none => .fail)
      | none => .fail)
    | _ => .fail)
  | _, _ => .fail
def outsOf : List Mode → List (A T) → Nat → (List (Out T) → M T α) → M T α
  | m :: ms, a :: as, n, k => outOf m a n fun o n => outsOf ms as n fun os => k (o ++ os)
  | [], [], _, k => k []
  | _, _, _, _ => .fail
def exitM (fn : Func) (sg : Sig) (as : List (A T)) (k : Res T → M T α) : M T α :=
  outsOf sg.modes as 0 fun os => retsM sg.rk fn.resultTypes.toList fn.results.toList fun xs => k ⟨xs, os⟩
def emptyS : St T := ⟨fun _ => .undef, fun _ => none⟩
def evF {R : Type} (Φ : Nat → List (A T) → (Res T → Option R) → Option R) (L : Nat → Option (LSpec T)) (ann : Ann) (n : Nat) (fn : Func) (sg : Sig) (as : List (A T)) (K : Res T → Option R) : Option R :=
  match fn.body with
  | none => none
  | some c => entryS 0 sg.modes as 0 emptyS fun s => ev Φ L ann n c (selfS as s) fun x s => match x with
    | .exit _ => none
    | _ => (exitM fn sg as .ret).run Φ s fun res _ => K res
end Go.Sm
end

section
set_option linter.unusedVariables false
namespace Go.Sm
variable {T : Tbl}

/-- A scalar and its value. -/
def plainD : D T.U → Value → Prop
  | .bool b, v => v = .bool b
  | .int k n, v => v = .int k n
  | .str x, v => v = .string x
  | _, _ => False
/-- A block of cells; m: the mark that the bytes of a string bear behind their end. -/
def fzE (m : Bool) (n : Nat) : Nat × Nat := cond m (n, n + 1) (0, 0)
abbrev cellsE (cs : Array Value) (el : Nat × Bool) : Obj := .cells cs el.1 (fzE el.2 cs.size)
/-- What the table says is what the program says. -/
structure TblOk (P : Program) (T : Tbl) : Prop where
  len : ∀ t x, (T.dget t x).length = T.size t
  get : ∀ t ds x, T.dset t ds = some x → T.dget t x = ds
  pat : ∀ t x, (T.dget t x).map D.isArr = (T.dget t (T.dflt t)).map D.isArr
  slice : ∀ t e, T.ty t = .slice e → P.underlying t = some (.slice e)
  arr : ∀ t n e, T.ty t = .arr n e → P.underlying t = some (.array n e)
  str : ∀ t, T.ty t = .str → P.underlying t = some .string
  bool : ∀ t, T.ty t = .bool → P.underlying t = some .bool
  int : ∀ t k, T.ty t = .int k → P.underlying t = some (.int k)
  intC : ∀ t k, T.ty t = .int k → ∀ x, ∃ n, T.dget t x = [.int k n]
  intS : ∀ t k, T.ty t = .int k → ∀ n, ∃ x, T.dset t [.int k n] = some x
  struct : ∀ t fs, T.ty t = .struct fs → ∃ fields : Array Field, P.underlying t = some (.struct fields) ∧ fs = fields.toList.map (fun f => (f.offset, f.type)) ∧ (∀ f ∈ fields.toList, 0 < T.size f.type ∧ f.name ≠ "_")
  ptr : ∀ t e, T.ty t = .ptr e → P.underlying t = some (.pointer e)
  map : ∀ t k e, T.ty t = .map k e → P.underlying t = some (.map k e)
  info : ∀ t, 0 < T.size t → ∃ i, P.info? t = some i ∧ i.size = T.size t ∧ i.bytes = T.bytes t ∧ ∃ z, i.zero = some z ∧ z.cells.toList = T.zero t ∧ (isAgg T t = true → ∃ cs, z = .agg cs)
  agg : ∀ t, 0 < T.size t → ((match P.underlying t with | some (.struct _) => true | some (.array _ _) => true | _ => false) = isAgg T t)
  zero : ∀ t, 0 < T.size t → (T.zero t).length = T.size t ∧ ∀ (j : Nat) (d : D T.U) (v : Value), (T.dget t (T.dflt t))[j]? = some d → (T.zero t)[j]? = some v → plainD d v ∨ (∃ t', d = .arr t' [] ∧ v = .slice none 0 0) ∨ (d.isFn = true ∧ v = .nilFunc)
  und : ∀ t, 0 < T.size t → ∃ d, P.underlying t = some d
  zv : ∀ t, 0 < T.size t → isAgg T t = false → ∃ i z, P.info? t = some i ∧ i.zero = some z ∧ ∀ cs, z ≠ .agg cs
  eqs : ∀ t, T.ceq t = true → ∀ (w : World) (xs ys : List (D T.U)) (us vs : List Value) (r : Bool), shaped (T.zero t) xs = true → shaped (T.zero t) ys = true → eqDs xs ys = some r →
    us.length = xs.length → vs.length = ys.length → (∀ (j : Nat) (d : D T.U) (v : Value), xs[j]? = some d → us[j]? = some v → plainD d v) → (∀ (j : Nat) (d : D T.U) (v : Value), ys[j]? = some d → vs[j]? = some v → plainD d v) →
    (Op.equal t (.agg us.toArray) (.agg vs.toArray)).run P w = .ok r w ∧ P.eqGuardType P.depth t = false

structure Env where
  K : Nat → Prop
  adr : Nat → Option Addr
  cap : Nat → Nat
  fp : Nat → Nat → Prop

def row (T : Tbl) (t : Nat) (l : List (T.U t)) (i : Nat) : List (D T.U) := T.dget t (l.getD i (T.dflt t))

/-- Data as memory has it, in blocks of K. -/
inductive RepD (T : Tbl) (w : World) (K : Nat → Prop) : D T.U → Value → Prop
  | bool (b) : RepD T w K (.bool b) (.bool b)
  | int (k n) : RepD T w K (.int k n) (.int k n)
  | str (s) : RepD T w K (.str s) (.string s)
  | nil : RepD T w K .nil (.slice none 0 0)
  | arr (t : Nat) (l : List (T.U t)) (A : Option Addr) (c : Nat) (vals : Nat → Nat → Value)
    (hc : l.length ≤ c) (hA : l ≠ [] → ∃ b off, A = some ⟨b, off, none⟩)
    (hcell : ∀ i j d, i < l.length → (row T t l i)[j]? = some d → ∃ b off, A = some ⟨b, off, none⟩ ∧ K b ∧ w.cell? ⟨b, off + i * T.size t + j, none⟩ = some (vals i j))
    (hsub : ∀ i j d, i < l.length → (row T t l i)[j]? = some d → RepD T w K d (vals i j)) : RepD T w K (.arr t l) (.slice A l.length c)
  | fn (t : Nat) (x : T.U t) (v : Value) (vs : List Value) (bs offs : Nat → Nat) (vals : Nat → Nat → Value) (h1 : v.oneCell' = true)
    (hv : ∀ f cs, fpick (T.fopt t x) = some (f, cs) → v = .func (.func f) #[] vs.toArray ∧ vs.length = cs.length)
    (hp : ∀ f cs, fpick (T.fopt t x) = some (f, cs) → ∀ (j : Nat) (c : (u : Nat) × T.U u), cs[j]? = some c → vs[j]? = some (.pointer (some ⟨bs j, offs j, none⟩)))
    (hcell : ∀ f cs, fpick (T.fopt t x) = some (f, cs) → ∀ (j : Nat) (c : (u : Nat) × T.U u) (i : Nat) (d : D T.U), cs[j]? = some c → (T.dget c.1 c.2)[i]? = some d → K (bs j) ∧ w.cell? ⟨bs j, offs j + i, none⟩ = some (vals j i))
    (hsub : ∀ f cs, fpick (T.fopt t x) = some (f, cs) → ∀ (j : Nat) (c : (u : Nat) × T.U u) (i : Nat) (d : D T.U), cs[j]? = some c → (T.dget c.1 c.2)[i]? = some d → RepD T w K d (vals j i)) : RepD T w K (.fn t x) v

/-- Data that is one's own: nothing else leads to its blocks, all of S. -/
inductive OwnD (T : Tbl) (w : World) : D T.U → Value → (Nat → Prop) → Prop
  | bool (b S) : OwnD T w (.bool b) (.bool b) S
  | int (k n S) : OwnD T w (.int k n) (.int k n) S
  | str (s S) : OwnD T w (.str s) (.string s) S
  | nil (S) : OwnD T w .nil (.slice none 0 0) S
  | arr (t : Nat) (l : List (T.U t)) (A : Option Addr) (c : Nat) (vals : Nat → Nat → Value) (F : Nat → Nat → Nat → Prop) (S : Nat → Prop)
    (hc : l.length ≤ c) (hA : l ≠ [] → ∃ b off, A = some ⟨b, off, none⟩)
    (hblk : 0 < c → ∃ b off cs el, A = some ⟨b, off, none⟩ ∧ S b ∧ w.heap[b]? = some (cellsE cs el) ∧ off + c * T.size t ≤ cs.size)
    (hcell : ∀ i j d, i < l.length → (row T t l i)[j]? = some d → ∃ b off, A = some ⟨b, off, none⟩ ∧ w.cell? ⟨b, off + i * T.size t + j, none⟩ = some (vals i j))
    (hsub : ∀ i j d, i < l.length → (row T t l i)[j]? = some d → OwnD T w d (vals i j) (F i j))
    (hF : ∀ i j b, F i j b → S b ∧ ∀ b' off, A = some ⟨b', off, none⟩ → b ≠ b')
    (hdis : ∀ i j i' j' b, F i j b → F i' j' b → i = i' ∧ j = j') : OwnD T w (.arr t l) (.slice A l.length c) S

/-- An array of an object: what its rows lead to goes by the rows' ownership. -/
def RowOk (T : Tbl) (w : World) (K : Nat → Prop) (dep : Dep) (i : Nat) (d : D T.U) (v : Value) (S : Nat → Prop) : Prop :=
  match dep with
  | .all => OwnD T w d v S
  | .upto k => (i < k ∧ OwnD T w d v S) ∨ (k ≤ i ∧ RepD T w K d v)
  | .hole h => (i = h ∧ d.isArr = true ∧ ∃ A n c, v = .slice A n c ∧ ∀ t l, d = .arr t l → n = l.length) ∨ OwnD T w d v S
structure ArrOk (T : Tbl) (w : World) (K : Nat → Prop) (t : Nat) (l : List (T.U t)) (dep : Dep) (A : Option Addr) (c : Nat) (S : Nat → Prop) (vals : Nat → Nat → Value) (F : Nat → Nat → Nat → Prop) : Prop where
  hc : l.length ≤ c
  hA : l ≠ [] → ∃ b off, A = some ⟨b, off, none⟩
  hblk : 0 < c → ∃ b off cs el, A = some ⟨b, off, none⟩ ∧ S b ∧ w.heap[b]? = some (cellsE cs el) ∧ off + c * T.size t ≤ cs.size
  hcell : ∀ i j d, i < l.length → (row T t l i)[j]? = some d → ∃ b off, A = some ⟨b, off, none⟩ ∧ w.cell? ⟨b, off + i * T.size t + j, none⟩ = some (vals i j)
  hsub : ∀ i j d, i < l.length → (row T t l i)[j]? = some d → RowOk T w K dep i d (vals i j) (F i j)
  hF : ∀ i j b, F i j b → S b ∧ ∀ b' off, A = some ⟨b', off, none⟩ → b ≠ b'
  hdis : ∀ i j i' j' b, F i j b → F i' j' b → i = i' ∧ j = j'

theorem OwnD.arr_iff {w : World} {t : Nat} {l : List (T.U t)} {v : Value} {S : Nat → Prop} (K : Nat → Prop) :
    OwnD T w (.arr t l) v S ↔ ∃ A c vals F, v = .slice A l.length c ∧ ArrOk T w K t l .all A c S vals F := by
  constructor
  · intro h
    cases h with
    | arr _ _ A c vals F _ hc hA hblk hcell hsub hF hdis => exact ⟨A, c, vals, F, rfl, hc, hA, hblk, hcell, hsub, hF, hdis⟩
  · rintro ⟨A, c, vals, F, rfl, h⟩
    exact .arr t l A c vals F S h.hc h.hA h.hblk h.hcell h.hsub h.hF h.hdis

theorem RepD.arr_inv {w : World} {K : Nat → Prop} {t : Nat} {l : List (T.U t)} {v : Value} (h : RepD T w K (.arr t l) v) :
    ∃ (A : Option Addr) (c : Nat) (vals : Nat → Nat → Value), v = .slice A l.length c ∧ l.length ≤ c ∧ (l ≠ [] → ∃ b off, A = some ⟨b, off, none⟩) ∧
      (∀ i j d, i < l.length → (row T t l i)[j]? = some d → ∃ b off, A = some ⟨b, off, none⟩ ∧ K b ∧ w.cell? ⟨b, off + i * T.size t + j, none⟩ = some (vals i j)) ∧
      (∀ i j d, i < l.length → (row T t l i)[j]? = some d → RepD T w K d (vals i j)) := by
  cases h with
  | arr _ _ A c vals hc hA hcell hsub => exact ⟨A, c, vals, rfl, hc, hA, hcell, hsub⟩

/-! ### References -/
def refInfo (s : St T) (q : Ref) : Option ((t : Nat) × List (T.U t)) :=
  match s.objs q.r with
  | some (.arr t l ver nver _ _) =>
    match q.p with
    | none => if ver = q.ver then some ⟨t, l⟩ else none
    | some (i, c) => if nver.has q.ver i then (if i < l.length then (match (row T t l i)[c]? with
      | some (.arr t' l') => some ⟨t', l'⟩
      | _ => none) else none) else none
  | _ => none
def ownedAt : Dep → Nat → Prop
  | .all, _ => True
  | .upto k, i => i < k
  | .hole _, _ => True
def RefAt (e : Env) (s : St T) (w : World) (q : Ref) (A : Option Addr) (c : Nat) : Prop :=
  match q.p with
  | none => A = e.adr q.r ∧ c = e.cap q.r
  | some (i, col) => ∃ t l ver nver dep pin b off n, s.objs q.r = some (.arr t l ver nver dep pin) ∧ ownedAt dep i ∧ e.adr q.r = some ⟨b, off, none⟩ ∧
      w.cell? ⟨b, off + i * T.size t + col, none⟩ = some (.slice A n c)
def SlOf (A : Option Addr) (c n sz : Nat) (rng : Option (Nat × Nat)) (v : Value) : Prop :=
  match rng with
  | none => v = .slice A n c
  | some (off, len) => off + len ≤ c ∧ ∃ A', v = .slice A' len (c - off) ∧ (off < c → A' = A.map (·.add (off * sz)))
/-- The object stands, and has not seen fewer turns than the reference. -/
def Live (s : St T) (q : Ref) : Prop := ∃ o, s.objs q.r = some o ∧ ∀ t l ver nver dep pin, o = .arr t l ver nver dep pin → q.ver ≤ (match q.p with | none => ver | some _ => nver.n)
def RelRef (e : Env) (s : St T) (w : World) (q : Ref) (rng : Option (Nat × Nat)) (v : Value) : Prop :=
  Live s q ∧ (∃ A n c, v = .slice A n c) ∧ ∀ t l, refInfo s q = some ⟨t, l⟩ → ∃ A c, RefAt e s w q A c ∧ SlOf A c l.length (T.size t) rng v
def RelPtr (e : Env) (s : St T) (w : World) (q : Ref) (row col : Nat) (v : Value) : Prop :=
  Live s q ∧ (∃ a, v = .pointer (some a)) ∧
  (∀ cs, s.objs q.r = some (.var cs) → row = 0 → ∃ b, e.adr q.r = some ⟨b, 0, none⟩ ∧ v = .pointer (some ⟨b, col, none⟩)) ∧
  (∀ t l, refInfo s q = some ⟨t, l⟩ → ∃ b off c, RefAt e s w q (some ⟨b, off, none⟩) c ∧ v = .pointer (some ⟨b, off + row * T.size t + col, none⟩))
def RelRptr (e : Env) (w : World) (t : Nat) (x : T.U t) (col : Nat) (v : Value) : Prop :=
  ∃ b off, ∃ vals : Nat → Value, v = .pointer (some ⟨b, off + col, none⟩) ∧ ∀ j d, (T.dget t x)[j]? = some d → e.K b ∧ w.cell? ⟨b, off + j, none⟩ = some (vals j) ∧ RepD T w e.K d (vals j)
def RelC0 (e : Env) (s : St T) (w : World) : C T → Value → Prop
  | .d x, v => RepD T w e.K x v
  | .ex t l, v => ∃ A, v = .slice A l.length l.length ∧ RepD T w e.K (.arr t l) v
  | .own q _ rng _, v => RelRef e s w q rng v
  | .ptr q row col, v => RelPtr e s w q row col v
  | .rptr t x col, v => RelRptr e w t x col v
  | .nptr, v => v = .pointer none
  | .fn _ _, _ => False
  | .map r, v => (∃ o, s.objs r = some o) ∧ (∃ m, v = .map m) ∧ ∀ kt et l, s.objs r = some (.map kt et l) → ∃ b, e.adr r = some ⟨b, 0, none⟩ ∧ v = .map (some b)
  | .undef, v => v.oneCell' = true
/-- What else stays, or grows, when the world goes on: the blocks of cells keep their sizes. -/
structure Oth (w w' : World) : Prop where
  output : w'.output = w.output
  drawn : w.drawn ≤ w'.drawn
  bsz : ∀ (b : Nat) (cs : Array Value) (el : Nat) (fz : Nat × Nat), w.heap[b]? = some (.cells cs el fz) → ∃ cs' : Array Value, w'.heap[b]? = some (.cells cs' el fz) ∧ cs'.size = cs.size
theorem Oth.refl (w : World) : Oth w w := ⟨rfl, Nat.le_refl _, fun _ cs _ _ h => ⟨cs, h, rfl⟩⟩
theorem Oth.trans {a b c : World} (h : Oth a b) (k : Oth b c) : Oth a c := ⟨k.output.trans h.output, Nat.le_trans h.drawn k.drawn, fun x cs el fz hx => by
  obtain ⟨c1, h1, h2⟩ := h.bsz x cs el fz hx
  obtain ⟨c2, h3, h4⟩ := k.bsz x c1 el fz h1
  exact ⟨c2, h3, h4.trans h2⟩⟩
/-- A function's value; or one that holds a pointer to the variable it lies in, or that pointer. -/
def FnVal (e : Env) (w : World) (f : Nat) (vs : List Value) (v : Value) : Prop :=
  (f < SLF ∧ v = .func (.func f) #[] vs.toArray) ∨
  (SLF ≤ f ∧ ∃ b g, g < SLF ∧ vs.getLast? = some (.pointer (some ⟨b, 0, none⟩)) ∧ e.K b ∧ w.cell? ⟨b, 0, none⟩ = some (.func (.func g) #[] vs.toArray) ∧
    ((f = SLF + g ∧ f < SLP ∧ v = .func (.func g) #[] vs.toArray) ∨ (f = SLP + g ∧ v = .pointer (some ⟨b, 0, none⟩)))) ∨
  (SLB ≤ f ∧ ∃ b cs, vs = [.pointer (some ⟨b, 0, none⟩)] ∧ (v = .pointer none ∨ v = .pointer (some ⟨b, 0, none⟩)) ∧ w.heap[b]? = some (.cells cs (f - SLB) (0, 0)) ∧ cs.size = 2)
theorem FnVal.plain {e : Env} {w : World} {f : Nat} {vs : List Value} {v : Value} (h : FnVal e w f vs v) (hf : f < SLF) : v = .func (.func f) #[] vs.toArray := by
  rcases h with h | h | h
  · exact h.2
  · exact absurd h.1 (Nat.not_le.2 hf)
  · exact absurd h.1 (by simp only [SLF, SLB] at hf ⊢; omega)
theorem FnVal.mono {e e' : Env} {w w' : World} {f : Nat} {vs : List Value} {v : Value} (h : FnVal e w f vs v) (hK : ∀ b, e.K b → e'.K b) (hw : ∀ b, e.K b → w'.heap[b]? = w.heap[b]?) (ho : Oth w w') : FnVal e' w' f vs v := by
  rcases h with h | ⟨h, b, g, h0, h1, h2, h3, h4⟩ | h
  · exact .inl h
  · exact .inr (.inl ⟨h, b, g, h0, h1, hK b h2, by simp only [World.cell?, hw b h2] at h3 ⊢; exact h3, h4⟩)
  · obtain ⟨h, b, cs, h1, h2, h3, h4⟩ := h
    obtain ⟨cs', h5, h6⟩ := ho.bsz _ _ _ _ h3
    exact .inr (.inr ⟨h, b, cs', h1, h2, h5, h6.trans h4⟩)
theorem FnVal.one {e : Env} {w : World} {f : Nat} {vs : List Value} {v : Value} (h : FnVal e w f vs v) : v.oneCell' = true := by
  rcases h with ⟨_, rfl⟩ | ⟨_, b, g, _, _, _, _, ⟨_, _, rfl⟩ | ⟨_, rfl⟩⟩ | ⟨_, b, _, _, rfl | rfl, _⟩ <;> rfl
def RelC (e : Env) (s : St T) (w : World) : C T → Value → Prop
  | .fn f caps, v => ∃ vs : List Value, FnVal e w f vs v ∧ vs.length = caps.length ∧ ∀ (j : Nat) (c : C T) (u : Value), caps[j]? = some c → vs[j]? = some u → RelC0 e s w c u
  | c, v => RelC0 e s w c v
def RelCs (e : Env) (s : St T) (w : World) (cs : List (C T)) (vs : List Value) : Prop := vs.length = cs.length ∧ ∀ (j : Nat) (c : C T) (u : Value), cs[j]? = some c → vs[j]? = some u → RelC e s w c u
def RelW (e : Env) (s : St T) (w : World) (x : Bool × List (C T)) (v : Value) : Prop :=
  match x.1 with
  | true => ∃ vs : List Value, v = .agg vs.toArray ∧ RelCs e s w x.2 vs
  | false => RelCs e s w x.2 [v]
def RelV (e : Env) (s : St T) (w : World) : V T → Value → Prop
  | .one c, v => RelC e s w c v
  | .agg cs, v => ∃ vs : List Value, v = .agg vs.toArray ∧ RelCs e s w cs vs
  | .tup xs, v => ∃ vs : List Value, v = .tuple vs.toArray ∧ vs.length = xs.length ∧ ∀ (j : Nat) (x : Bool × List (C T)) (u : Value), xs[j]? = some x → vs[j]? = some u → RelW e s w x u
  | .undef, _ => True
  | .skip, v => v = undef
def RelO (e : Env) (s : St T) (w : World) (r : Nat) : Root T → Prop
  | .var cs => ∃ b arr el, e.adr r = some ⟨b, 0, none⟩ ∧ e.fp r b ∧ w.heap[b]? = some (cellsE arr el) ∧ RelCs e s w cs arr.toList
  | .arr t l _ _ dep _ => ∃ vals F, ArrOk T w e.K t l dep (e.adr r) (e.cap r) (e.fp r) vals F
  | .map kt et l => ∃ b es clk, e.adr r = some ⟨b, 0, none⟩ ∧ e.fp r b ∧ w.heap[b]? = some (.map es clk) ∧ es.size = l.length ∧
      ∀ (j : Nat) (x : T.U kt × T.U et) (me : MapEntry), l[j]? = some x → es[j]? = some me → (∃ kd, T.dget kt x.1 = [kd] ∧ RepD T w (fun _ => False) kd me.key) ∧
        RelW (T := T) ⟨fun _ => False, fun _ => none, fun _ => 0, fun _ _ => False⟩ ⟨fun _ => .undef, fun _ => none⟩ w (isAgg T et, (T.dget et x.2).map ofD) me.val
  | .dead => True

structure Rel (e : Env) (s : St T) (tm : Array Value) (w : World) : Prop where
  regs : ∀ t, RelV e s w (s.regs t) (tm.getD t undef)
  objs : ∀ r o, s.objs r = some o → RelO e s w r o
  dis : ∀ r r' b, e.fp r b → e.fp r' b → r = r'
  disK : ∀ r b, e.fp r b → ¬ e.K b
  lt : ∀ b, (e.K b ∨ ∃ r, e.fp r b) → b < w.heap.size
/-- What is known of a function's beginning: the blocks that may change, and the headers of what is lent to it. -/
structure Gh where
  M : Nat → Prop
  K : Nat → Prop
  hdr : Nat → Option Value
  vad : Nat → Option Addr
instance : CoeFun Gh (fun _ => Nat → Prop) := ⟨Gh.M⟩
/-- Of what was there at the beginning only blocks of M have changed; objects lie in M's blocks or in new ones. -/
structure Fr (W0 : World) (M0 : Gh) (e : Env) (w : World) : Prop where
  size : W0.heap.size ≤ w.heap.size
  os : w.os = W0.os
  tape : w.tape = W0.tape
  output : Oth W0 w
  block : ∀ b, b < W0.heap.size → ¬ M0 b → w.heap[b]? = W0.heap[b]?
  own : ∀ r b, e.fp r b → b < W0.heap.size → M0 b
  know : ∀ b, e.K b → b < W0.heap.size → M0.K b ∨ M0 b

/-! ### What stays when the world changes elsewhere -/
theorem cell_same {w w' : World} {b : Nat} (h : w'.heap[b]? = w.heap[b]?) (o : Nat) : w'.cell? ⟨b, o, none⟩ = w.cell? ⟨b, o, none⟩ := by
  simp only [World.cell?, h]
theorem RepD.mono {w w' : World} {K K' : Nat → Prop} (hK : ∀ b, K b → K' b) (hw : ∀ b, K b → w'.heap[b]? = w.heap[b]?) {d : D T.U} {v : Value} (h : RepD T w K d v) : RepD T w' K' d v := by
  induction h with
  | bool b => exact .bool b
  | int k n => exact .int k n
  | str s => exact .str s
  | nil => exact .nil
  | arr t l A c vals hc hA hcell hsub ih =>
    refine .arr t l A c vals hc hA (fun i j d hi hd => ?_) ih
    obtain ⟨b, off, e, hb, hcl⟩ := hcell i j d hi hd
    exact ⟨b, off, e, hK b hb, by rw [cell_same (hw b hb)]; exact hcl⟩
  | fn t x v vs bs offs vals h1 hv hp hcell hsub ih =>
    refine .fn t x v vs bs offs vals h1 hv hp (fun f cs hf j c i d hc hd => ?_) ih
    obtain ⟨hb, hcl⟩ := hcell f cs hf j c i d hc hd
    exact ⟨hK _ hb, by rw [cell_same (hw _ hb)]; exact hcl⟩
theorem OwnD.mono {w w' : World} {d : D T.U} {v : Value} {S : Nat → Prop} (h : OwnD T w d v S) (hw : ∀ b, S b → w'.heap[b]? = w.heap[b]?) : OwnD T w' d v S := by
  induction h with
  | bool b => exact .bool b _
  | int k n => exact .int k n _
  | str s => exact .str s _
  | nil => exact .nil _
  | arr t l A c vals F S hc hA hblk hcell hsub hF hdis ih =>
    refine .arr t l A c vals F S hc hA (fun hp => ?_) (fun i j d hi hd => ?_) (fun i j d hi hd => ih i j d hi hd fun b hb => hw b (hF i j b hb).1) hF hdis
    · obtain ⟨b, off, cs, el, e1, e2, e3, e4⟩ := hblk hp
      exact ⟨b, off, cs, el, e1, e2, by rw [hw b e2]; exact e3, e4⟩
    · obtain ⟨b, off, e1, e2⟩ := hcell i j d hi hd
      have hp : 0 < c := by omega
      obtain ⟨b', off', cs, el, e3, e4, e5, e6⟩ := hblk hp
      rw [e1] at e3
      simp only [Option.some.injEq, Addr.mk.injEq] at e3
      exact ⟨b, off, e1, by rw [cell_same (hw b (e3.1 ▸ e4))]; exact e2⟩
theorem OwnD.wider {w : World} {d : D T.U} {v : Value} {S S' : Nat → Prop} (h : OwnD T w d v S) (hS : ∀ b, S b → S' b) : OwnD T w d v S' := by
  cases h with
  | bool b => exact .bool b _
  | int k n => exact .int k n _
  | str s => exact .str s _
  | nil => exact .nil _
  | arr t l A c vals F S hc hA hblk hcell hsub hF hdis =>
    exact .arr t l A c vals F S' hc hA (fun hp => by obtain ⟨b, off, cs, el, e1, e2, e3⟩ := hblk hp; exact ⟨b, off, cs, el, e1, hS b e2, e3⟩) hcell hsub (fun i j b hb => ⟨hS b (hF i j b hb).1, (hF i j b hb).2⟩) hdis
theorem OwnD.rep {w : World} {d : D T.U} {v : Value} {S : Nat → Prop} (h : OwnD T w d v S) : RepD T w S d v := by
  induction h with
  | bool b => exact .bool b
  | int k n => exact .int k n
  | str s => exact .str s
  | nil => exact .nil
  | arr t l A c vals F S hc hA hblk hcell hsub hF hdis ih =>
    refine .arr t l A c vals hc hA (fun i j d hi hd => ?_) (fun i j d hi hd => (ih i j d hi hd).mono (fun b hb => (hF i j b hb).1) fun _ _ => rfl)
    obtain ⟨b, off, e1, e2⟩ := hcell i j d hi hd
    obtain ⟨b', off', cs, el, e3, e4, e5, e6⟩ := hblk (by omega)
    rw [e1] at e3
    simp only [Option.some.injEq, Addr.mk.injEq] at e3
    exact ⟨b, off, e1, e3.1 ▸ e4, e2⟩
theorem RowOk.mono {w w' : World} {K K' : Nat → Prop} {dep : Dep} {i : Nat} {d : D T.U} {v : Value} {S : Nat → Prop} (h : RowOk T w K dep i d v S)
    (hK : ∀ b, K b → K' b) (hwK : ∀ b, K b → w'.heap[b]? = w.heap[b]?) (hw : ∀ b, S b → w'.heap[b]? = w.heap[b]?) : RowOk T w' K' dep i d v S := by
  cases dep with
  | all => exact OwnD.mono h hw
  | upto k => exact h.imp (fun x => ⟨x.1, x.2.mono hw⟩) (fun x => ⟨x.1, x.2.mono hK hwK⟩)
  | hole k => exact h.imp id (fun x => OwnD.mono x hw)
theorem ArrOk.mono {w w' : World} {K K' : Nat → Prop} {t : Nat} {l : List (T.U t)} {dep : Dep} {A : Option Addr} {c : Nat} {S : Nat → Prop} {vals : Nat → Nat → Value} {F : Nat → Nat → Nat → Prop}
    (h : ArrOk T w K t l dep A c S vals F) (hK : ∀ b, K b → K' b) (hwK : ∀ b, K b → w'.heap[b]? = w.heap[b]?) (hw : ∀ b, S b → w'.heap[b]? = w.heap[b]?) : ArrOk T w' K' t l dep A c S vals F where
  hc := h.hc
  hA := h.hA
  hblk hp := by
    obtain ⟨b, off, cs, el, e1, e2, e3, e4⟩ := h.hblk hp
    exact ⟨b, off, cs, el, e1, e2, by rw [hw b e2]; exact e3, e4⟩
  hcell i j d hi hd := by
    obtain ⟨b, off, e1, e2⟩ := h.hcell i j d hi hd
    obtain ⟨b', off', cs, el, e3, e4, e5, e6⟩ := h.hblk (by have := h.hc; omega)
    rw [e1] at e3
    simp only [Option.some.injEq, Addr.mk.injEq] at e3
    exact ⟨b, off, e1, by rw [cell_same (hw b (e3.1 ▸ e4))]; exact e2⟩
  hsub i j d hi hd := (h.hsub i j d hi hd).mono hK hwK fun b hb => hw b (h.hF i j b hb).1
  hF := h.hF
  hdis := h.hdis
end Go.Sm
end

section
set_option linter.unusedVariables false
namespace Go.Sm
variable {T : Tbl}

/-- What cells and registers are about has stayed: references, pointers, maps, and what is read only. -/
structure Keeps (e : Env) (s : St T) (w : World) (e' : Env) (s' : St T) (w' : World) : Prop where
  oth : Oth w w'
  K : ∀ b, e.K b → e'.K b
  wK : ∀ b, e.K b → w'.heap[b]? = w.heap[b]?
  ref : ∀ q rng v, RelRef e s w q rng v → RelRef e' s' w' q rng v
  ptr : ∀ q row col v, RelPtr e s w q row col v → RelPtr e' s' w' q row col v
  map : ∀ r v, RelC0 e s w (.map r : C T) v → RelC0 e' s' w' (.map r : C T) v
section
variable {e e' : Env} {s s' : St T} {w w' : World}
theorem Keeps.rep (h : Keeps e s w e' s' w') {d : D T.U} {v : Value} (hd : RepD T w e.K d v) : RepD T w' e'.K d v := hd.mono h.K h.wK
theorem Keeps.c0 (h : Keeps e s w e' s' w') {c : C T} {v : Value} (hc : RelC0 e s w c v) : RelC0 e' s' w' c v := by
  cases c with
  | d x => exact h.rep hc
  | ex t l => obtain ⟨A, e1, e2⟩ := hc; exact ⟨A, e1, h.rep e2⟩
  | own q t rng ex => exact h.ref _ _ _ hc
  | ptr q row col => exact h.ptr _ _ _ _ hc
  | rptr t x col =>
    obtain ⟨b, off, vals, e1, e2⟩ := hc
    refine ⟨b, off, vals, e1, fun j d hj => ?_⟩
    obtain ⟨h1, h2, h3⟩ := e2 j d hj
    exact ⟨h.K b h1, by rw [cell_same (h.wK b h1)]; exact h2, h.rep h3⟩
  | nptr => exact hc
  | fn f caps => exact hc
  | map r => exact h.map _ _ hc
  | undef => exact hc
theorem Keeps.c (h : Keeps e s w e' s' w') {c : C T} {v : Value} (hc : RelC e s w c v) : RelC e' s' w' c v := by
  cases c with
  | fn f caps => obtain ⟨vs, e1, e2, e3⟩ := hc; exact ⟨vs, e1.mono h.K h.wK h.oth, e2, fun j c u hj hu => h.c0 (e3 j c u hj hu)⟩
  | _ => simp only [RelC] at hc ⊢; exact h.c0 hc
theorem Keeps.cs (h : Keeps e s w e' s' w') {cs : List (C T)} {vs : List Value} (hc : RelCs e s w cs vs) : RelCs e' s' w' cs vs := ⟨hc.1, fun j c u hj hu => h.c (hc.2 j c u hj hu)⟩
theorem Keeps.pw (h : Keeps e s w e' s' w') {x : Bool × List (C T)} {v : Value} (hc : RelW e s w x v) : RelW e' s' w' x v := by
  unfold RelW at *
  split
  · rename_i hx; simp only [hx] at hc; obtain ⟨vs, e1, e2⟩ := hc; exact ⟨vs, e1, h.cs e2⟩
  · rename_i hx; simp only [hx] at hc; exact h.cs hc
theorem Keeps.v (h : Keeps e s w e' s' w') {x : V T} {v : Value} (hc : RelV e s w x v) : RelV e' s' w' x v := by
  cases x with
  | one c => exact h.c hc
  | agg cs => obtain ⟨vs, e1, e2⟩ := hc; exact ⟨vs, e1, h.cs e2⟩
  | tup xs => obtain ⟨vs, e1, e2, e3⟩ := hc; exact ⟨vs, e1, e2, fun j x u hj hu => h.pw (e3 j x u hj hu)⟩
  | undef => trivial
  | skip => exact hc
theorem Keeps.refl : Keeps e s w e s w := ⟨Oth.refl _, fun _ h => h, fun _ _ => rfl, fun _ _ _ h => h, fun _ _ _ _ h => h, fun _ _ h => h⟩
theorem Keeps.trans {e'' : Env} {s'' : St T} {w'' : World} (h : Keeps e s w e' s' w') (k : Keeps e' s' w' e'' s'' w'') : Keeps e s w e'' s'' w'' :=
  ⟨h.oth.trans k.oth, fun b hb => k.K b (h.K b hb), fun b hb => (k.wK b (h.K b hb)).trans (h.wK b hb), fun q r v x => k.ref _ _ _ (h.ref _ _ _ x), fun q r c v x => k.ptr _ _ _ _ (h.ptr _ _ _ _ x), fun r v x => k.map _ _ (h.map _ _ x)⟩

/-- An object that nothing has happened to. -/
structure SameO (e : Env) (s : St T) (w : World) (e' : Env) (s' : St T) (w' : World) (r : Nat) : Prop where
  obj : s'.objs r = s.objs r
  adr : e'.adr r = e.adr r
  cap : e'.cap r = e.cap r
  fp : ∀ b, e'.fp r b ↔ e.fp r b
  blk : ∀ b, e.fp r b → w'.heap[b]? = w.heap[b]?
theorem SameO.info {q : Ref} (h : SameO e s w e' s' w' q.r) : refInfo s' q = refInfo s q := by unfold refInfo; rw [h.obj]
theorem SameO.live {q : Ref} (h : SameO e s w e' s' w' q.r) (hl : Live s q) : Live s' q := by unfold Live at *; rw [h.obj]; exact hl
theorem info_nonempty {q : Ref} {i c : Nat} {t t' : Nat} {l : List (T.U t)} {l' : List (T.U t')} {ver : Nat} {nver : NV} {dep : Dep} {pin : Bool} (hp : q.p = some (i, c)) (ho : s.objs q.r = some (.arr t l ver nver dep pin))
    (hi : refInfo s q = some ⟨t', l'⟩) : nver.has q.ver i ∧ i < l.length ∧ (row T t l i)[c]? = some (.arr t' l') := by
  unfold refInfo at hi
  simp only [ho, hp] at hi
  split at hi
  · rename_i h1
    split at hi
    · rename_i h2
      split at hi
      · rename_i h3
        simp only [Option.some.injEq, Sigma.mk.injEq] at hi
        obtain ⟨rfl, hi⟩ := hi
        cases hi
        exact ⟨h1, h2, h3⟩
      · cases hi
    · cases hi
  · cases hi
theorem SameO.at_ {q : Ref} (h : SameO e s w e' s' w' q.r) (ho : ∀ o, s.objs q.r = some o → RelO e s w q.r o) {t : Nat} {l : List (T.U t)} (hi : refInfo s q = some ⟨t, l⟩) {A : Option Addr} {c : Nat}
    (hat : RefAt e s w q A c) : RefAt e' s' w' q A c := by
  unfold RefAt at *
  cases hp : q.p with
  | none => simp only [hp] at *; exact ⟨hat.1.trans h.adr.symm, hat.2.trans h.cap.symm⟩
  | some ic =>
    obtain ⟨i, col⟩ := ic
    simp only [hp] at hat ⊢
    obtain ⟨t1, l1, ver, nver, dep, pin, b, off, n, h1, h2, h3, h4⟩ := hat
    refine ⟨t1, l1, ver, nver, dep, pin, b, off, n, h.obj.trans h1, h2, h.adr.trans h3, ?_⟩
    obtain ⟨_, hlt, _⟩ := info_nonempty hp h1 hi
    obtain ⟨vals, F, hA⟩ := ho _ h1
    obtain ⟨b', off', cs, el, e1, e2, _, _⟩ := hA.hblk (by have := hA.hc; omega)
    rw [h3] at e1
    simp only [Option.some.injEq, Addr.mk.injEq] at e1
    rw [cell_same (h.blk b (e1.1 ▸ e2))]
    exact h4
theorem SameO.ref {q : Ref} (h : SameO e s w e' s' w' q.r) (ho : ∀ o, s.objs q.r = some o → RelO e s w q.r o) {rng : Option (Nat × Nat)} {v : Value} (hr : RelRef e s w q rng v) : RelRef e' s' w' q rng v := by
  refine ⟨h.live hr.1, hr.2.1, fun t l hi => ?_⟩
  rw [h.info] at hi
  obtain ⟨A, c, h1, h2⟩ := hr.2.2 t l hi
  exact ⟨A, c, h.at_ ho hi h1, h2⟩
theorem SameO.ptr {q : Ref} (h : SameO e s w e' s' w' q.r) (ho : ∀ o, s.objs q.r = some o → RelO e s w q.r o) {row col : Nat} {v : Value} (hr : RelPtr e s w q row col v) : RelPtr e' s' w' q row col v := by
  refine ⟨h.live hr.1, hr.2.1, fun cs hc hz => ?_, fun t l hi => ?_⟩
  · obtain ⟨b, h1, h2⟩ := hr.2.2.1 cs (h.obj.symm.trans hc) hz
    exact ⟨b, h.adr.trans h1, h2⟩
  · rw [h.info] at hi
    obtain ⟨b, off, c, h1, h2⟩ := hr.2.2.2 t l hi
    exact ⟨b, off, c, h.at_ ho hi h1, h2⟩
theorem SameO.map {r : Nat} (h : SameO e s w e' s' w' r) {v : Value} (hr : RelC0 e s w (.map r : C T) v) : RelC0 e' s' w' (.map r : C T) v := by
  refine ⟨by rw [h.obj]; exact hr.1, hr.2.1, fun kt et l hm => ?_⟩
  obtain ⟨b, h1, h2⟩ := hr.2.2 kt et l (h.obj.symm.trans hm)
  exact ⟨b, h.adr.trans h1, h2⟩
/-- What an object that nothing has happened to says. -/
theorem SameO.relO {r : Nat} (h : SameO e s w e' s' w' r) (k : Keeps e s w e' s' w') {o : Root T} (ho : RelO e s w r o) : RelO e' s' w' r o := by
  cases o with
  | var cs =>
    obtain ⟨b, arr, el, h1, h2, h3, h4⟩ := ho
    exact ⟨b, arr, el, h.adr.trans h1, (h.fp b).2 h2, (h.blk b h2).trans h3, k.cs h4⟩
  | arr t l ver nver dep pin =>
    obtain ⟨vals, F, hA⟩ := ho
    refine ⟨vals, F, ?_⟩
    rw [h.adr, h.cap]
    have hm := hA.mono k.K k.wK (fun b hb => h.blk b hb)
    exact ⟨hm.hc, hm.hA, (fun hp => by obtain ⟨b, off, cs, el, e1, e2, e3⟩ := hm.hblk hp; exact ⟨b, off, cs, el, e1, (h.fp b).2 e2, e3⟩), hm.hcell, hm.hsub, (fun i j b hb => ⟨(h.fp b).2 (hm.hF i j b hb).1, (hm.hF i j b hb).2⟩), hm.hdis⟩
  | map kt et l =>
    obtain ⟨b, es, clk, h1, h2, h3, h4, h5⟩ := ho
    refine ⟨b, es, clk, h.adr.trans h1, (h.fp b).2 h2, (h.blk b h2).trans h3, h4, fun j x me hx hm => ?_⟩
    obtain ⟨⟨kd, g1, g2⟩, g3⟩ := h5 j x me hx hm
    refine ⟨⟨kd, g1, g2.mono (fun _ h => h) fun b hb => hb.elim⟩, ?_⟩
    refine Keeps.pw (e := ⟨fun _ => False, fun _ => none, fun _ => 0, fun _ _ => False⟩) (s := ⟨fun _ => .undef, fun _ => none⟩) (w := w) ⟨k.oth, fun _ h => h, fun _ h => h.elim, ?_, ?_, ?_⟩ g3
    · rintro q rng v ⟨⟨o, ho, _⟩, _⟩; cases ho
    · rintro q row col v ⟨⟨o, ho, _⟩, _⟩; cases ho
    · rintro r v ⟨⟨o, ho⟩, _⟩; cases ho
  | dead => trivial
end

/-! ### A register is written -/
theorem Rel.setR {e : Env} {s : St T} {tm : Array Value} {w : World} (h : Rel e s tm w) {d : Nat} (hd : d < tm.size) {x : V T} {v : Value} (hv : RelV e (s.setR d x) w x v) : Rel e (s.setR d x) (tm.setIfInBounds d v) w := by
  have hk : Keeps e s w e (s.setR d x) w := ⟨Oth.refl _, fun _ h => h, fun _ _ => rfl, fun _ _ _ h => h, fun _ _ _ _ h => h, fun _ _ h => h⟩
  refine ⟨fun t => ?_, fun r o ho => ?_, h.dis, h.disK, h.lt⟩
  · by_cases e1 : t = d
    · subst e1
      simp only [St.setR, beq_self, cond_true]
      rw [Array.getD_eq_getD_getElem?, Array.getElem?_setIfInBounds_self_of_lt hd]
      exact hv
    · have h1 := h.regs t
      simp only [St.setR, beq_ne e1, cond_false]
      rw [Array.getD_eq_getD_getElem?, Array.getElem?_setIfInBounds_ne (by omega), ← Array.getD_eq_getD_getElem?]
      exact hk.v h1
  · exact SameO.relO (s := s) (s' := s.setR d x) (w := w) ⟨rfl, rfl, rfl, fun _ => Iff.rfl, fun _ _ => rfl⟩ hk (h.objs r o ho)
end Go.Sm
end

section
set_option linter.unusedVariables false
namespace Go.Sm
variable {T : Tbl} {α : Type}

/-- A run, its places left out. -/
def Rn (Ok : Nat → List (A T) → Res T → Prop) (m : M T α) (s : St T) (a : α) (s' : St T) : Prop := ∃ R W, Run Ok m s a s' R W
section
variable {Ok : Nat → List (A T) → Res T → Prop} {s s' : St T} {a : α}
theorem rn_ret {x : α} (h : Rn Ok (.ret x : M T α) s a s') : a = x ∧ s' = s := by obtain ⟨R, W, h⟩ := h; cases h; exact ⟨rfl, rfl⟩
theorem rn_fail (h : Rn Ok (.fail : M T α) s a s') : False := by obtain ⟨R, W, h⟩ := h; cases h
theorem rn_getR {t : Nat} {k : V T → M T α} (h : Rn Ok (.getR t k) s a s') : Rn Ok (k (s.regs t)) s a s' := by obtain ⟨R, W, h⟩ := h; cases h with | getR h => exact ⟨_, _, h⟩
theorem rn_setR {t : Nat} {v : V T} {k : M T α} (h : Rn Ok (.setR t v k) s a s') : Rn Ok k (s.setR t v) a s' := by obtain ⟨R, W, h⟩ := h; cases h with | setR h => exact ⟨_, _, h⟩
theorem rn_getO {t : Nat} {k : Option (Root T) → M T α} (h : Rn Ok (.getO t k) s a s') : Rn Ok (k (s.objs t)) s a s' := by obtain ⟨R, W, h⟩ := h; cases h with | getO h => exact ⟨_, _, h⟩
theorem rn_setO {t : Nat} {v : Option (Root T)} {k : M T α} (h : Rn Ok (.setO t v k) s a s') : Rn Ok k (s.setO t v) a s' := by obtain ⟨R, W, h⟩ := h; cases h with | setO h => exact ⟨_, _, h⟩
theorem rn_br {b : Bool} {x y : M T α} (h : Rn Ok (.br b x y) s a s') : (b = true ∧ Rn Ok x s a s') ∨ (b = false ∧ Rn Ok y s a s') := by
  obtain ⟨R, W, h⟩ := h
  cases h with
  | brT h => exact .inl ⟨rfl, _, _, h⟩
  | brF h => exact .inr ⟨rfl, _, _, h⟩
/-- A test that must hold. -/
theorem rn_must {p : Prop} [Decidable p] {x : M T α} (h : Rn Ok (.br (decide p) x .fail) s a s') : p ∧ Rn Ok x s a s' := by
  rcases rn_br h with ⟨h1, h2⟩ | ⟨_, h2⟩
  · exact ⟨of_decide_eq_true h1, h2⟩
  · exact (rn_fail h2).elim
theorem rn_not {p : Prop} [Decidable p] {x : M T α} (h : Rn Ok (.br (decide p) .fail x) s a s') : ¬ p ∧ Rn Ok x s a s' := by
  rcases rn_br h with ⟨_, h2⟩ | ⟨h1, h2⟩
  · exact (rn_fail h2).elim
  · exact ⟨of_decide_eq_false h1, h2⟩
theorem rn_cond {b : Bool} {x : M T α} (h : Rn Ok (cond b x .fail) s a s') : b = true ∧ Rn Ok x s a s' := by
  cases b with
  | true => exact ⟨rfl, h⟩
  | false => exact (rn_fail h).elim
theorem rn_guard {t : Nat} {k : Bool → M T α} (h : Rn Ok (.guard t k) s a s') : ∃ b, s.regs t = .one (.d (.bool b)) ∧ Rn Ok (k b) s a s' := by
  obtain ⟨R, W, h⟩ := h
  cases h with
  | guard h1 h2 => exact ⟨_, h1, _, _, h2⟩
theorem rn_call {f : Nat} {as : List (A T)} {k : Res T → M T α} (h : Rn Ok (.call f as k) s a s') : ∃ res, Ok f as res ∧ Rn Ok (k res) s a s' := by
  obtain ⟨R, W, h⟩ := h
  cases h with
  | call h1 h2 => exact ⟨_, h1, _, _, h2⟩
theorem rn_withL {t t' : Nat} {l : List (T.U t')} {k : List (T.U t) → M T α} (h : Rn Ok (withL t t' l k) s a s') : ∃ e : t' = t, Rn Ok (k (e ▸ l)) s a s' := by
  unfold withL at h
  split at h
  · exact ⟨_, h⟩
  · exact (rn_fail h).elim
theorem rn_withU {t t' : Nat} {x : T.U t'} {k : T.U t → M T α} (h : Rn Ok (withU t t' x k) s a s') : ∃ e : t' = t, Rn Ok (k (e ▸ x)) s a s' := by
  unfold withU at h
  split at h
  · exact ⟨_, h⟩
  · exact (rn_fail h).elim
theorem rn_newO {id : Nat} {x : Root T} {k : M T α} (h : Rn Ok (newO id x k) s a s') : (s.objs id = none ∧ id < BIG) ∧ Rn Ok k (s.setO id (some x)) a s' := by
  obtain ⟨hb, h⟩ := rn_cond h
  rw [Nat.blt_eq] at hb
  have h := rn_getO h
  cases ho : s.objs id with
  | none => rw [ho] at h; exact ⟨⟨rfl, hb⟩, rn_setO h⟩
  | some o => rw [ho] at h; exact (rn_fail h).elim

/-! ### Operands -/
theorem rn_evV {x : Operand} {k : V T → M T α} (h : Rn Ok (evV x k) s a s') : ∃ v, opV s x = some v ∧ Rn Ok (k v) s a s' := by
  cases x with
  | tmp t => exact ⟨_, rfl, rn_getR h⟩
  | const v =>
    simp only [evV] at h
    cases hv : toV (T := T) v with
    | none => rw [hv] at h; exact (rn_fail h).elim
    | some u => rw [hv] at h; exact ⟨u, hv, h⟩
  | global g => exact (rn_fail h).elim
  | func f =>
    obtain ⟨hb, h⟩ := rn_cond h
    exact ⟨_, by simp only [opV, hb, cond_true], h⟩
theorem rn_evC {x : Operand} {k : C T → M T α} (h : Rn Ok (evC x k) s a s') : ∃ c, opV s x = some (.one c) ∧ Rn Ok (k c) s a s' := by
  obtain ⟨v, h1, h2⟩ := rn_evV h
  cases v with
  | one c => exact ⟨c, h1, h2⟩
  | _ => exact (rn_fail h2).elim
theorem rn_evInt {x : Operand} {k : IntKind → Int → M T α} (h : Rn Ok (evInt x k) s a s') : ∃ ki n, opV s x = some (.one (.d (.int ki n))) ∧ Rn Ok (k ki n) s a s' := by
  obtain ⟨c, h1, h2⟩ := rn_evC h
  cases c with
  | d d => cases d with
    | int ki n => exact ⟨ki, n, h1, h2⟩
    | _ => exact (rn_fail h2).elim
  | _ => exact (rn_fail h2).elim
end

section
variable {e : Env} {s s' : St T} {w : World} {tm : Array Value}
theorem toC_rel {v : Value} {c : C T} (h : toC v = some c) : RelC e s w c v := by
  unfold toC at h
  split at h <;> simp only [Option.some.injEq, reduceCtorEq] at h <;> subst h <;> simp only [RelC, RelC0]
  · exact .bool _
  · exact .int _ _
  · exact .str _
  · exact .nil
  · rfl
theorem toCs_rel : ∀ {vs : List Value} {cs : List (C T)}, toCs vs = some cs → RelCs e s w cs vs
  | [], cs, h => by simp [toCs] at h; subst h; exact ⟨rfl, fun j c u hc => by simp at hc⟩
  | v :: r, cs, h => by
    simp only [toCs] at h
    cases h1 : toC (T := T) v with
    | none => simp [h1] at h
    | some c =>
      cases h2 : toCs (T := T) r with
      | none => simp [h1, h2] at h
      | some cs' =>
        simp [h1, h2] at h
        subst h
        obtain ⟨g1, g2⟩ := toCs_rel h2
        refine ⟨by simp [g1], fun j c' u hc hu => ?_⟩
        cases j with
        | zero => simp at hc hu; subst hc; subst hu; exact toC_rel h1
        | succ j => exact g2 j c' u (by simpa using hc) (by simpa using hu)
theorem toV_rel {v : Value} {x : V T} (h : toV v = some x) : RelV e s w x v := by
  unfold toV at h
  split at h
  · rename_i cs
    obtain ⟨l, h1, rfl⟩ := Option.map_eq_some_iff.1 h
    exact ⟨cs.toList, by simp, toCs_rel h1⟩
  · obtain ⟨c, h1, rfl⟩ := Option.map_eq_some_iff.1 h
    exact toC_rel h1
theorem Rel.op (h : Rel e s tm w) {ds : List Deferred} {x : Operand} {v : V T} (hv : opV s x = some v) : RelV e s w v (Act.eval ⟨tm, ds⟩ x) := by
  cases x with
  | tmp t => simp only [opV, Option.some.injEq] at hv; subst hv; exact h.regs t
  | const u => exact toV_rel hv
  | global g => simp [opV] at hv
  | func f =>
    cases hb : Nat.blt f SLF with
    | false => simp only [opV, hb, cond_false] at hv; cases hv
    | true =>
      simp only [opV, hb, cond_true, Option.some.injEq] at hv
      subst hv
      rw [Nat.blt_eq] at hb
      exact ⟨[], .inl ⟨hb, rfl⟩, rfl, fun j c u hc => by simp at hc⟩
theorem RepD.one {K : Nat → Prop} {d : D T.U} {v : Value} (h : RepD T w K d v) : v.oneCell' = true := by cases h <;> first | rfl | assumption
theorem RelC.one {c : C T} {v : Value} (h : RelC e s w c v) : v.oneCell' = true := by
  cases c <;> simp only [RelC, RelC0] at h
  · exact h.one
  · obtain ⟨A, rfl, _⟩ := h; rfl
  · obtain ⟨_, ⟨A, n, c, rfl⟩, _⟩ := h; rfl
  · obtain ⟨_, ⟨A, rfl⟩, _⟩ := h; rfl
  · obtain ⟨b, off, vals, rfl, _⟩ := h; rfl
  · subst h; rfl
  · obtain ⟨vs, h, _⟩ := h; exact h.one
  · obtain ⟨_, ⟨m, rfl⟩, _⟩ := h; rfl
  · exact h
theorem cells_of_one {v : Value} (h : v.oneCell' = true) : v.cells = #[v] := by cases v <;> simp_all [Value.cells, Value.oneCell']
theorem RelV.cells {v : V T} {u : Value} {cs : List (C T)} (h : RelV e s w v u) (hc : v.cells = some cs) : RelCs e s w cs u.cells.toList := by
  cases v with
  | one c =>
    simp only [V.cells, Option.some.injEq] at hc
    subst hc
    rw [cells_of_one (RelC.one h)]
    refine ⟨rfl, fun j c' x hj hx => ?_⟩
    cases j with
    | zero => simp at hj hx; subst hj; subst hx; exact h
    | succ j => simp at hj
  | agg cs' =>
    simp only [V.cells, Option.some.injEq] at hc
    subst hc
    obtain ⟨vs, rfl, h2⟩ := h
    simpa [Value.cells] using h2
  | tup xs => simp [V.cells] at hc
  | undef => simp [V.cells] at hc
  | skip => simp [V.cells] at hc
theorem RelCs.one {cs : List (C T)} {vs : List Value} (h : RelCs e s w cs vs) : ∀ v ∈ vs, v.oneCell' = true := by
  intro v hv
  obtain ⟨j, hj, rfl⟩ := List.getElem_of_mem hv
  have hj' : j < cs.length := by rw [← h.1]; exact hj
  exact RelC.one (h.2 j cs[j] vs[j] (by simp [hj']) (by simp [hj]))
end
end Go.Sm
end

section
set_option linter.unusedVariables false
namespace Go.Sm
variable {T : Tbl} {α : Type}

theorem addr_add (b off n : Nat) : (⟨b, off, none⟩ : Addr).add n = ⟨b, off + n, none⟩ := by unfold Addr.add; split <;> simp_all
theorem nbeq {a b : Nat} (h : Nat.beq a b = true) : a = b := Nat.eq_of_beq_eq_true h
theorem nble {a b : Nat} (h : Nat.ble a b = true) : a ≤ b := Nat.le_of_ble_eq_true h
section
variable {Ok : Nat → List (A T) → Res T → Prop} {s s' : St T} {a : α}
theorem rn_toVal {ag : Bool} {cs : List (C T)} {k : V T → M T α} (h : Rn Ok (toVal ag cs k) s a s') :
    ∃ v, Rn Ok (k v) s a s' ∧ 0 < cs.length ∧ ((ag = true ∧ v = .agg cs) ∨ (ag = false ∧ ∃ c, cs = [c] ∧ v = .one c)) := by
  unfold toVal at h
  split at h
  · exact ⟨_, h, by simp, .inl ⟨rfl, rfl⟩⟩
  · exact ⟨_, h, by simp, .inr ⟨rfl, _, rfl, rfl⟩⟩
  · exact (rn_fail h).elim
end
/-- Cells as one value. -/
def mkVal (ag : Bool) (vs : List Value) : Value := match ag with
  | true => .agg vs.toArray
  | false => vs.getD 0 undef
section
variable {P : Program} {e : Env} {s s' : St T} {w : World} {tm : Array Value}
theorem relV_mk {ag : Bool} {cs : List (C T)} {v : V T} {vs : List Value} (hv : (ag = true ∧ v = .agg cs) ∨ (ag = false ∧ ∃ c, cs = [c] ∧ v = .one c)) (h : RelCs e s w cs vs) : RelV e s w v (mkVal ag vs) := by
  rcases hv with ⟨rfl, rfl⟩ | ⟨rfl, c, rfl, rfl⟩
  · exact ⟨vs, rfl, h⟩
  · obtain ⟨h1, h2⟩ := h
    match vs, h1 with
    | [v], _ => exact h2 0 c v rfl rfl

theorem run_isAgg (hT : TblOk P T) {t : Nat} (hs : 0 < T.size t) (w : World) : (Go.isAgg t).run P w = .ok (Go.Sm.isAgg T t) w := by
  obtain ⟨d, hd⟩ := hT.und t hs
  have h := hT.agg t hs
  rw [hd] at h
  unfold Go.isAgg
  simp only [Sem.run_bind, run_underlying hd, Result.andThen_ok]
  rw [← h]
  cases d <;> rfl
theorem run_size (hT : TblOk P T) {t : Nat} (hs : 0 < T.size t) (w : World) : (sizeOf t).run P w = .ok (T.size t) w := by
  obtain ⟨i, h1, h2, _⟩ := hT.info t hs
  simp [sizeOf, run_typeInfo w h1, h2]
theorem run_loadAt (hT : TblOk P T) {t : Nat} {b off : Nat} {vs : List Value} (hl : vs.length = T.size t) (h0 : 0 < T.size t) (hc : ∀ j v, vs[j]? = some v → w.cell? ⟨b, off + j, none⟩ = some v) (ho : Go.Sm.isAgg T t = false → T.size t = 1) :
    (Instr.loadAt t (.pointer (some ⟨b, off, none⟩))).run P w = .ok (mkVal (Go.Sm.isAgg T t) vs) w := by
  unfold Instr.loadAt Instr.sureAddr loadVar
  simp only [Sem.run_bind, Sem.run_pure, Result.andThen_ok, run_isAgg hT h0, Sem.run_ite]
  cases hag : Go.Sm.isAgg T t with
  | true =>
    simp only [if_true, Sem.run_bind, run_size hT h0, Result.andThen_ok, Sem.run_pure]
    rw [← hl, run_loadCells_list w ⟨b, off, none⟩ vs fun j v hj => by rw [addr_add]; exact hc j v hj]
    rfl
  | false =>
    have h1 := ho hag
    match vs, hl with
    | [v], _ =>
      have := hc 0 v rfl
      simp only [Nat.add_zero] at this
      simp [this, mkVal]
    | [], hl => simp at hl; omega
    | _ :: _ :: _, hl => simp at hl; omega

/-! ### Rows of arrays, as a register has them -/
theorem takeAt_get {β : Type} (l : List β) (off n j : Nat) (hj : j < n) : (takeAt l off n)[j]? = l[off + j]? := by
  unfold takeAt
  rw [List.getElem?_take, if_pos hj, List.getElem?_drop]
theorem takeAt_length {β : Type} (l : List β) (off n : Nat) : (takeAt l off n).length = min n (l.length - off) := by unfold takeAt; simp
/-- Read only cells. -/
theorem ofD_rel {ds : List (D T.U)} {vs : List Value} (hl : vs.length = ds.length) (h : ∀ (j : Nat) (d : D T.U) (v : Value), ds[j]? = some d → vs[j]? = some v → RepD T w e.K d v) : RelCs e s w (ds.map ofD) vs := by
  refine ⟨by simp [hl], fun j c u hc hu => ?_⟩
  rw [List.getElem?_map] at hc
  obtain ⟨d, hd, rfl⟩ := Option.map_eq_some_iff.1 hc
  exact h j d u hd hu
theorem flat_rep {K K' : Nat → Prop} {w w' : World} {d : D T.U} {v : Value} (h : RepD T w K d v) (hf : d.isArr = false) : RepD T w' K' d v := by
  cases h with
  | bool b => exact .bool b
  | int k n => exact .int k n
  | str s => exact .str s
  | nil => simp [D.isArr] at hf
  | arr => simp [D.isArr] at hf
  | fn => simp [D.isArr] at hf
theorem RowOk.flat {K K' : Nat → Prop} {w w' : World} {dep : Dep} {i : Nat} {d : D T.U} {v : Value} {S : Nat → Prop} (h : RowOk T w K dep i d v S) (hf : d.isArr = false) : RepD T w' K' d v := by
  cases dep with
  | all => exact flat_rep (OwnD.rep h) hf
  | upto k => exact h.elim (fun x => flat_rep x.2.rep hf) (fun x => flat_rep x.2 hf)
  | hole k => exact h.elim (fun x => by rw [x.2.1] at hf; cases hf) (fun x => flat_rep x.rep hf)
theorem nested_false {ds : List (D T.U)} (h : nestedAt ds = false) {j : Nat} {d : D T.U} (hd : ds[j]? = some d) : d.isArr = false := by
  unfold nestedAt at h
  have := List.any_eq_false.1 h d (List.mem_of_getElem? hd)
  simpa using this
theorem row_get (T : Tbl) {t : Nat} {l : List (T.U t)} {i col n j : Nat} {d : D T.U} (h : (takeAt (row T t l i) col n)[j]? = some d) : (row T t l i)[col + j]? = some d := by
  by_cases hj : j < n
  · rwa [takeAt_get _ _ _ _ hj] at h
  · unfold takeAt at h
    rw [List.getElem?_take, if_neg hj] at h
    cases h

theorem ArrOk.vals_at {K : Nat → Prop} {t : Nat} {l : List (T.U t)} {dep : Dep} {A : Option Addr} {c : Nat} {S : Nat → Prop} {vals : Nat → Nat → Value} {F : Nat → Nat → Nat → Prop}
    (h : ArrOk T w K t l dep A c S vals F) {b off : Nat} (hA : A = some ⟨b, off, none⟩) {i j : Nat} {d : D T.U} (hi : i < l.length) (hd : (row T t l i)[j]? = some d) :
    w.cell? ⟨b, off + i * T.size t + j, none⟩ = some (vals i j) := by
  obtain ⟨b', off', e1, e2⟩ := h.hcell i j d hi hd
  rw [hA] at e1
  simp only [Option.some.injEq, Addr.mk.injEq, and_true] at e1
  obtain ⟨rfl, rfl⟩ := e1
  exact e2
end
/-! ### Nil slices where lists are asked for -/
theorem fixNil_length {U : Nat → Type} : ∀ (ps ds : List (D U)), (fixNil ps ds).length = ds.length
  | [], ds => by cases ds <;> rfl
  | p :: ps, [] => rfl
  | p :: ps, d :: ds => by simp [fixNil, fixNil_length ps ds]
theorem fix1_cases {U : Nat → Type} (p d : D U) : fix1 p d = d ∨ (d = .nil ∧ ∃ t, fix1 p d = .arr t []) := by
  unfold fix1
  split
  · exact .inr ⟨rfl, _, rfl⟩
  · exact .inl rfl
theorem fixNil_get {U : Nat → Type} : ∀ (ps ds : List (D U)) (j : Nat) (d' : D U), (fixNil ps ds)[j]? = some d' → ∃ d, ds[j]? = some d ∧ (d' = d ∨ (d = .nil ∧ ∃ t, d' = .arr t []))
  | [], ds, j, d', h => ⟨d', by cases ds <;> exact h, .inl rfl⟩
  | p :: ps, [], j, d', h => by simp [fixNil] at h
  | p :: ps, d :: ds, 0, d', h => by
    simp only [fixNil, List.getElem?_cons_zero, Option.some.injEq] at h
    subst h
    exact ⟨d, rfl, fix1_cases p d⟩
  | p :: ps, d :: ds, j + 1, d', h => by
    simp only [fixNil, List.getElem?_cons_succ] at h
    obtain ⟨d0, h1, h2⟩ := fixNil_get ps ds j d' h
    exact ⟨d0, by simpa using h1, h2⟩
theorem RepD.ofNil {T : Tbl} {w : World} {K : Nat → Prop} {v : Value} (h : RepD T w K (.nil : D T.U) v) (t : Nat) : RepD T w K (.arr t [] : D T.U) v := by
  cases h
  exact .arr t [] none 0 (fun _ _ => .tuple #[]) (Nat.le_refl _) (fun h => absurd rfl h) (fun i j d hi => absurd hi (Nat.not_lt_zero _)) (fun i j d hi => absurd hi (Nat.not_lt_zero _))
theorem OwnD.ofNil {T : Tbl} {w : World} {S : Nat → Prop} {v : Value} (h : OwnD T w (.nil : D T.U) v S) (t : Nat) : OwnD T w (.arr t [] : D T.U) v S := by
  cases h
  exact .arr t [] none 0 (fun _ _ => .tuple #[]) (fun _ _ _ => False) S (Nat.le_refl _) (fun h => absurd rfl h) (fun h => absurd h (Nat.lt_irrefl _)) (fun i j d hi => absurd hi (Nat.not_lt_zero _)) (fun i j d hi => absurd hi (Nat.not_lt_zero _)) (fun _ _ _ h => h.elim) (fun _ _ _ _ _ h => h.elim)
end Go.Sm
end

section
set_option linter.unusedVariables false
namespace Go.Sm
variable {T : Tbl} {α : Type}
section
variable {Ok : Nat → List (A T) → Res T → Prop} {s s' : St T} {a : α} {P : Program} {e : Env} {w : World} {tm : Array Value}

/-- No reference leads to a row that is out. -/
def NoHole (s : St T) (q : Ref) : Prop := ∀ i c, q.p = some (i, c) → ∀ t l ver nver h pin, s.objs q.r = some (.arr t l ver nver (.hole h) pin) → i ≠ h
theorem rn_apartM {i : Nat} : ∀ {rs : List Nat} {k : M T α}, Rn Ok (apartM i rs k) s a s' → i ∉ rs ∧ Rn Ok k s a s'
  | [], k, h => ⟨by simp, h⟩
  | r :: rs, k, h => by
    obtain ⟨h1, h⟩ := rn_not h
    obtain ⟨h2, h3⟩ := rn_apartM h
    exact ⟨by simp [h1, h2], h3⟩
theorem rn_verM {v : NV} {n i : Nat} {k : M T α} (h : Rn Ok (verM v n i k) s a s') : v.has n i ∧ Rn Ok k s a s' := by
  unfold verM at h
  cases hb : Nat.beq v.n n with
  | true => rw [hb] at h; exact ⟨NV.has_of (nbeq hb), h⟩
  | false =>
    rw [hb] at h
    obtain ⟨h1, h⟩ := rn_cond (show Rn Ok (cond _ _ .fail) s a s' from h)
    obtain ⟨h2, h3⟩ := rn_apartM h
    simp only [Bool.and_eq_true] at h1
    exact ⟨⟨nble h1.1, nble h1.2, h2⟩, h3⟩
theorem rn_notHole {dep : Dep} {i : Nat} {k : M T α} (h : Rn Ok (notHole dep i k) s a s') : (∀ m, dep = .hole m → i ≠ m) ∧ Rn Ok k s a s' := by
  unfold notHole at h
  split at h
  · obtain ⟨h1, h2⟩ := rn_not h
    exact ⟨fun m e => by cases e; exact h1, h2⟩
  · rename_i hd
    exact ⟨fun m e => absurd e (hd m), h⟩
theorem rn_ownedRow {dep : Dep} {i : Nat} {k : Bool → M T α} (h : Rn Ok (ownedRow dep i k) s a s') :
    ∃ own, Rn Ok (k own) s a s' ∧ (own = true → ownedAt dep i ∧ ∀ K w d v S, RowOk T w K dep i d v S → OwnD T w d v S) ∧ (own = false → ∀ K w d v S, RowOk T w K dep i d v S → RepD T w K d v) := by
  cases dep with
  | all => exact ⟨true, h, (fun _ => ⟨trivial, fun _ _ _ _ _ x => x⟩), (fun h => by cases h)⟩
  | upto n =>
    rcases rn_br h with ⟨h1, h2⟩ | ⟨h1, h2⟩
    · have := of_decide_eq_true h1
      exact ⟨true, h2, (fun _ => ⟨this, fun _ _ _ _ _ x => x.elim (fun y => y.2) fun y => absurd y.1 (by omega)⟩), (fun h => by cases h)⟩
    · have := of_decide_eq_false h1
      exact ⟨false, h2, (fun h => by cases h), (fun _ _ _ _ _ _ x => x.elim (fun y => absurd y.1 (by omega)) fun y => y.2)⟩
  | hole n =>
    obtain ⟨h1, h2⟩ := rn_not h
    exact ⟨true, h2, (fun _ => ⟨trivial, fun _ _ _ _ _ x => x.elim (fun y => absurd y.1 h1) id⟩), (fun h => by cases h)⟩

theorem rowCells_length (r nver row : Nat) (own : Bool) : ∀ (c : Nat) (ds : List (D T.U)), (rowCells r nver row own c ds).length = ds.length
  | _, [] => rfl
  | c, d :: ds => by cases d <;> simp [rowCells, rowCells_length r nver row own (c + 1) ds]
theorem rowCells_get (r nver row : Nat) (own : Bool) : ∀ (c : Nat) (ds : List (D T.U)) (j : Nat) (x : C T), (rowCells r nver row own c ds)[j]? = some x →
    ∃ d, ds[j]? = some d ∧ ((∃ t l, d = .arr t l ∧ x = cond own (.own ⟨r, nver, some (row, c + j)⟩ t none false) (.d d)) ∨ ((∀ t l, d ≠ .arr t l) ∧ x = .d d))
  | _, [], j, x, h => by simp [rowCells] at h
  | c, d :: ds, j, x, h => by
    cases j with
    | zero =>
      refine ⟨d, rfl, ?_⟩
      cases d <;> simp only [rowCells, List.getElem?_cons_zero, Option.some.injEq] at h <;> subst h
      case arr t l => exact .inl ⟨t, l, rfl, rfl⟩
      all_goals exact .inr ⟨(fun _ _ h => by cases h), rfl⟩
    | succ j =>
      have h' : (rowCells r nver row own (c + 1) ds)[j]? = some x := by cases d <;> simpa [rowCells] using h
      obtain ⟨d', h1, h2⟩ := rowCells_get r nver row own (c + 1) ds j x h'
      refine ⟨d', by simpa using h1, ?_⟩
      rw [show c + (j + 1) = c + 1 + j from by omega]
      exact h2

theorem isAgg_size {t n : Nat} {ag : Bool} {cs : List (C T)} {v : V T} (hl : cs.length = T.size t) (hv : (ag = true ∧ v = .agg cs) ∨ (ag = false ∧ ∃ c, cs = [c] ∧ v = .one c)) : ag = false → T.size t = 1 := by
  intro h
  rcases hv with ⟨h1, _⟩ | ⟨_, c, h2, _⟩
  · rw [h1] at h; cases h
  · rw [← hl, h2]; rfl

theorem OwnD.plain {K S : Nat → Prop} {d : D T.U} {v : Value} (h : OwnD T w d v S) (hne : ∀ t l, d ≠ .arr t l) : RepD T w K d v := by
  cases h with
  | bool b => exact .bool b
  | int k n => exact .int k n
  | str s => exact .str s
  | nil => exact .nil
  | arr t l => exact absurd rfl (hne t l)
/-- The row of an array whose cells a register may have. -/
theorem arr_cells (hR : Rel e s tm w) {q : Ref} {t' : Nat} {l : List (T.U t')} {ver : Nat} {nver : NV} {dep : Dep} {pin : Bool} (ho : s.objs q.r = some (.arr t' l ver nver dep pin)) {row : Nat} (hrow : row < l.length)
    {b off : Nat} (hadr : e.adr q.r = some ⟨b, off, none⟩) (col n : Nat) {own : Bool}
    (hown : own = true → ownedAt dep row ∧ ∀ K w d v S, RowOk T w K dep row d v S → OwnD T w d v S) (hro : own = false → ∀ K w d v S, RowOk T w K dep row d v S → RepD T w K d v) :
    ∃ vs : List Value, vs.length = (takeAt (Go.Sm.row T t' l row) col n).length ∧ RelCs e s w (rowCells q.r nver.n row own col (takeAt (Go.Sm.row T t' l row) col n)) vs ∧
      ∀ j v, vs[j]? = some v → w.cell? ⟨b, off + row * T.size t' + col + j, none⟩ = some v := by
  obtain ⟨vals, F, hA⟩ := hR.objs _ _ ho
  refine ⟨(List.range (takeAt (Go.Sm.row T t' l row) col n).length).map fun j => vals row (col + j), by simp, ⟨by rw [rowCells_length]; simp, fun j c u hc hu => ?_⟩, fun j v hj => ?_⟩
  · obtain ⟨d, hd, hx⟩ := rowCells_get _ _ _ _ _ _ _ _ hc
    have hd' := row_get T hd
    have hu' : u = vals row (col + j) := by
      rw [List.getElem?_map] at hu
      obtain ⟨j', h1, rfl⟩ := Option.map_eq_some_iff.1 hu
      rw [List.getElem?_range (by have := (List.getElem?_eq_some_iff.1 hd).1; omega)] at h1
      cases h1
      rfl
    subst hu'
    have hrow' := hA.hsub row (col + j) d hrow hd'
    rcases hx with ⟨t2, l2, rfl, rfl⟩ | ⟨hne, rfl⟩
    · cases own with
      | false => exact hro rfl _ _ _ _ _ hrow'
      | true =>
        obtain ⟨h1, h2⟩ := hown rfl
        have h3 := h2 _ _ _ _ _ hrow'
        obtain ⟨A, c, vals', F', he, hA'⟩ := (OwnD.arr_iff e.K).1 h3
        refine ⟨⟨_, ho, fun t l ver nver' dep pin hh => by cases hh; exact Nat.le_refl _⟩, ⟨A, _, c, he⟩, fun t3 l3 hi => ?_⟩
        obtain ⟨_, _, h4⟩ := info_nonempty (q := ⟨q.r, nver.n, some (row, col + j)⟩) rfl ho hi
        rw [hd'] at h4
        simp only [Option.some.injEq, D.arr.injEq] at h4
        obtain ⟨rfl, h4⟩ := h4
        cases h4
        exact ⟨A, c, ⟨_, _, _, _, _, _, b, off, _, ho, h1, hadr, by rw [← he]; exact hA.vals_at hadr hrow hd'⟩, he⟩
    · cases own with
      | false => exact hro rfl _ _ _ _ _ hrow'
      | true =>
        have h3 := (hown rfl).2 _ _ _ _ _ hrow'
        exact OwnD.plain h3 hne
  · rw [List.getElem?_map] at hj
    obtain ⟨j', h1, rfl⟩ := Option.map_eq_some_iff.1 hj
    have hlt : j < (takeAt (Go.Sm.row T t' l row) col n).length := by
      have := (List.getElem?_eq_some_iff.1 h1).1
      simpa using this
    rw [List.getElem?_range hlt] at h1
    cases h1
    have hd : (takeAt (Go.Sm.row T t' l row) col n)[j]? = some _ := List.getElem?_eq_getElem hlt
    have := hA.vals_at hadr hrow (row_get T hd)
    rw [← Nat.add_assoc] at this
    exact this

theorem rowCells_flat (r nver row : Nat) (own : Bool) : ∀ (c : Nat) (ds : List (D T.U)), nestedAt ds = false → rowCells r nver row own c ds = ds.map ofD
  | _, [], _ => rfl
  | c, d :: ds, h => by
    have hd : d.isArr = false := nested_false h (j := 0) rfl
    have ht : nestedAt ds = false := by
      unfold nestedAt at *
      simp only [List.any_cons, Bool.or_eq_false_iff] at h
      exact h.2
    cases d <;> simp [rowCells, ofD, rowCells_flat r nver row own (c + 1) ds ht] <;> simp [D.isArr] at hd

theorem loadM_ok (hT : TblOk P T) (hR : Rel e s tm w) {t : Nat} {c : C T} {u : Value} (hc : RelC e s w c u) {k : V T → M T α} (h : Rn Ok (loadM t c k) s a s') :
    ∃ v val, Rn Ok (k v) s a s' ∧ RelV e s w v val ∧ (Instr.loadAt t u).run P w = .ok val w := by
  unfold loadM at h
  split at h
  case h_1 t' x col =>
    obtain ⟨h1, h2⟩ := rn_cond h
    obtain ⟨v, h3, h4, h5⟩ := rn_toVal h2
    obtain ⟨b, off, vals, rfl, hv⟩ := hc
    have hl := nbeq h1
    have hl' : (takeAt (T.dget t' x) col (T.size t)).length = T.size t := by simpa using hl
    have hrel : RelCs e s w ((takeAt (T.dget t' x) col (T.size t)).map ofD) ((List.range (T.size t)).map fun j => vals (col + j)) := by
      refine ofD_rel (by simp [hl']) fun j d v hd hv' => ?_
      have hj : j < T.size t := by have := (List.getElem?_eq_some_iff.1 hd).1; omega
      rw [takeAt_get _ _ _ _ hj] at hd
      rw [List.getElem?_map, List.getElem?_range hj] at hv'
      simp only [Option.map_some, Option.some.injEq] at hv'
      subst hv'
      exact (hv _ _ hd).2.2
    refine ⟨v, _, h3, relV_mk h5 hrel, run_loadAt hT (by simp) (by rw [← hl]; exact h4) (fun j v hj => ?_) (isAgg_size (n := 0) hl h5)⟩
    rw [List.getElem?_map] at hj
    obtain ⟨j', g1, rfl⟩ := Option.map_eq_some_iff.1 hj
    have hjl : j < T.size t := by simpa using (List.getElem?_eq_some_iff.1 g1).1
    rw [List.getElem?_range hjl] at g1
    cases g1
    have hd : (takeAt (T.dget t' x) col (T.size t))[j]? = some _ := List.getElem?_eq_getElem (by omega)
    rw [takeAt_get _ _ _ _ hjl] at hd
    have := (hv _ _ hd).2.1
    rwa [← Nat.add_assoc] at this
  case h_2 q row col =>
    have h := rn_getO h
    obtain ⟨hlive, ⟨ad, rfl⟩, hvar, harr⟩ := hc
    split at h
    · rename_i cs ho
      obtain ⟨h1, h⟩ := rn_cond h
      obtain ⟨h2, h⟩ := rn_cond h
      obtain ⟨v, h3, h4, h5⟩ := rn_toVal h
      have hrow := nbeq h1
      obtain ⟨b, e1, e2⟩ := hvar cs ho hrow
      obtain ⟨b', arr, el, g1, g2, g3, g4⟩ := hR.objs _ _ ho
      rw [e1] at g1
      simp only [Option.some.injEq, Addr.mk.injEq, and_true] at g1
      subst g1
      have hl := nbeq h2
      have hal : arr.toList.length = cs.length := g4.1
      have htl : (takeAt arr.toList col (T.size t)).length = (takeAt cs col (T.size t)).length := by rw [takeAt_length, takeAt_length, hal]
      rw [e2]
      refine ⟨v, _, h3, relV_mk h5 (vs := takeAt arr.toList col (T.size t)) ⟨htl, fun j c u hc hu => ?_⟩, run_loadAt hT (by rw [htl, hl]) (by rw [← hl]; exact h4) (fun j v hj => ?_) (isAgg_size (n := 0) hl h5)⟩
      · have hj : j < T.size t := by have := (List.getElem?_eq_some_iff.1 hc).1; omega
        rw [takeAt_get _ _ _ _ hj] at hc hu
        exact g4.2 _ _ _ hc hu
      · have hj' : j < T.size t := by have := (List.getElem?_eq_some_iff.1 hj).1; omega
        rw [takeAt_get _ _ _ _ hj'] at hj
        simp only [World.cell?, g3]
        simpa using hj
    · rename_i t' l ver nver dep pin ho
      split at h
      · rename_i hp
        obtain ⟨h1, h⟩ := rn_cond h
        obtain ⟨hrow, h⟩ := rn_must h
        obtain ⟨h2, h⟩ := rn_cond h
        have hver := nbeq h1
        have hi : refInfo s q = some ⟨t', l⟩ := by unfold refInfo; simp only [ho, hp]; rw [if_pos hver]
        obtain ⟨b, off, c, g1, g2⟩ := harr _ _ hi
        unfold RefAt at g1
        simp only [hp] at g1
        obtain ⟨g1, _⟩ := g1
        rw [g2]
        have hl := nbeq h2
        change (takeAt (Go.Sm.row T t' l row) col (T.size t)).length = T.size t at hl
        cases hn : nestedAt (takeAt (T.dget t' (l.getD row (T.dflt t'))) col (T.size t)) with
        | true =>
          rw [hn, cond_true] at h
          obtain ⟨own, h3, h4, h5⟩ := rn_ownedRow h
          obtain ⟨v, h6, h7, h8⟩ := rn_toVal h3
          obtain ⟨vs, k1, k2, k3⟩ := arr_cells hR ho hrow g1.symm col (T.size t) h4 h5
          exact ⟨v, _, h6, relV_mk h8 k2, run_loadAt hT (by rw [k1, hl]) (by rw [← hl, ← k1]; have := k2.1; rw [this]; exact h7) k3 (isAgg_size (n := 0) (by rw [rowCells_length]; exact hl) h8)⟩
        | false =>
          rw [hn, cond_false] at h
          obtain ⟨v, h6, h7, h8⟩ := rn_toVal h
          obtain ⟨vals, F, hA⟩ := hR.objs _ _ ho
          refine ⟨v, _, h6, relV_mk h8 (vs := (List.range (T.size t)).map fun j => vals row (col + j)) (ofD_rel (by simp; exact hl.symm) fun j d u hd hu => ?_), run_loadAt hT (by simp) (by rw [← hl, ← List.length_map ofD]; exact h7) (fun j v hj => ?_) (isAgg_size (n := 0) (by rw [List.length_map]; exact hl) h8)⟩
          · have hj : j < T.size t := by have := (List.getElem?_eq_some_iff.1 hd).1; change _ < (takeAt (Go.Sm.row T t' l row) col (T.size t)).length at this; omega
            have hf := nested_false hn hd
            rw [List.getElem?_map, List.getElem?_range hj] at hu
            simp only [Option.map_some, Option.some.injEq] at hu
            subst hu
            exact (hA.hsub row (col + j) d hrow (row_get T hd)).flat hf
          · rw [List.getElem?_map] at hj
            obtain ⟨j', g3, rfl⟩ := Option.map_eq_some_iff.1 hj
            have hj : j < T.size t := by simpa using (List.getElem?_eq_some_iff.1 g3).1
            rw [List.getElem?_range hj] at g3
            cases g3
            have hd : (takeAt (Go.Sm.row T t' l row) col (T.size t))[j]? = some _ := List.getElem?_eq_getElem (by omega)
            have := hA.vals_at g1.symm hrow (row_get T hd)
            rwa [← Nat.add_assoc] at this
      · rename_i i c hp
        obtain ⟨hver, h⟩ := rn_verM h
        obtain ⟨hnh, h⟩ := rn_notHole h
        obtain ⟨hi0, h⟩ := rn_must h
        split at h
        · rename_i t2 l2 hn
          obtain ⟨hrow, h⟩ := rn_must h
          obtain ⟨h2, h⟩ := rn_cond h
          cases hnest : nestedAt (takeAt (T.dget t2 (l2.getD row (T.dflt t2))) col (T.size t)) with
          | true => rw [hnest, cond_true] at h; exact (rn_fail h).elim
          | false =>
            rw [hnest, cond_false] at h
            obtain ⟨v, h6, h7, h8⟩ := rn_toVal h
            have hi : refInfo s q = some ⟨t2, l2⟩ := by
              unfold refInfo
              simp only [ho, hp]
              rw [if_pos hver, if_pos hi0]
              change (match (Go.Sm.row T t' l i)[c]? with | some (.arr t' l') => some (⟨t', l'⟩ : (t : Nat) × List (T.U t)) | _ => none) = _
              rw [show (Go.Sm.row T t' l i)[c]? = some (.arr t2 l2) from hn]
            obtain ⟨b, off, cc, g1, g2⟩ := harr _ _ hi
            unfold RefAt at g1
            simp only [hp] at g1
            obtain ⟨t3, l3, ver3, nver3, dep3, pin3, b3, off3, n3, k1, k2, k3, k4⟩ := g1
            rw [ho] at k1
            simp only [Option.some.injEq, Root.arr.injEq] at k1
            obtain ⟨rfl, k1, rfl, rfl, rfl, rfl⟩ := k1
            cases k1
            obtain ⟨vals, F, hA⟩ := hR.objs _ _ ho
            have hsub := hA.hsub i c _ hi0 hn
            have hcell := hA.vals_at k3 hi0 hn
            rw [k4] at hcell
            have hown : OwnD T w (.arr t2 l2) (vals i c) (F i c) := by
              cases dep with
              | all => exact hsub
              | upto m => exact hsub.elim (fun x => x.2) fun x => by have : i < m := k2; omega
              | hole m => exact hsub.elim (fun x => absurd x.1 (hnh m rfl)) id
            obtain ⟨A', c', vals', F', he, hA'⟩ := (OwnD.arr_iff e.K).1 hown
            rw [he] at hcell
            simp only [Option.some.injEq, Value.slice.injEq] at hcell
            obtain ⟨hAe, -, -⟩ := hcell
            rw [g2]
            have hl := nbeq h2
            change (takeAt (Go.Sm.row T t2 l2 row) col (T.size t)).length = T.size t at hl
            refine ⟨v, _, h6, relV_mk h8 (vs := (List.range (T.size t)).map fun j => vals' row (col + j)) (ofD_rel (by simp; exact hl.symm) fun j d u hd hu => ?_), run_loadAt hT (by simp) (by rw [← hl, ← List.length_map ofD]; exact h7) (fun j v hj => ?_) (isAgg_size (n := 0) (by rw [List.length_map]; exact hl) h8)⟩
            · have hj : j < T.size t := by have := (List.getElem?_eq_some_iff.1 hd).1; change _ < (takeAt (Go.Sm.row T t2 l2 row) col (T.size t)).length at this; omega
              have hf := nested_false hnest hd
              rw [List.getElem?_map, List.getElem?_range hj] at hu
              simp only [Option.map_some, Option.some.injEq] at hu
              subst hu
              exact (hA'.hsub row (col + j) d hrow (row_get T hd)).flat hf
            · rw [List.getElem?_map] at hj
              obtain ⟨j', g3, rfl⟩ := Option.map_eq_some_iff.1 hj
              have hj : j < T.size t := by simpa using (List.getElem?_eq_some_iff.1 g3).1
              rw [List.getElem?_range hj] at g3
              cases g3
              have hd : (takeAt (Go.Sm.row T t2 l2 row) col (T.size t))[j]? = some _ := List.getElem?_eq_getElem (by omega)
              have := hA'.vals_at hAe.symm hrow (row_get T hd)
              rwa [← Nat.add_assoc] at this
        · exact (rn_fail h).elim
    · exact (rn_fail h).elim
  case h_3 f caps =>
    obtain ⟨hb, h⟩ := rn_cond h
    rw [Bool.and_eq_true, Bool.and_eq_true] at hb
    obtain ⟨⟨hb1, hb2⟩, hb3⟩ := hb
    have hb1 := nble hb1
    have hb2 := nbeq hb2
    have hag : Go.Sm.isAgg T t = false := by cases hx : Go.Sm.isAgg T t with | false => rfl | true => rw [hx] at hb3; cases hb3
    obtain ⟨vs, hfv, hvl, hvs⟩ := hc
    obtain ⟨hlt3, h⟩ := rn_cond h
    rw [Nat.blt_eq] at hlt3
    rcases hfv with ⟨hlt, _⟩ | ⟨_, b, g, g0, g1, g2, g3, ⟨_, hlt, _⟩ | ⟨rfl, rfl⟩⟩ | ⟨e3, _⟩
    case inr.inr => exact absurd hlt3 (Nat.not_lt.2 e3)
    · exact absurd hlt (Nat.not_lt.2 (Nat.le_trans (by decide) hb1))
    · exact absurd hlt (Nat.not_lt.2 hb1)
    · have hr := run_loadAt (t := t) (b := b) (off := 0) (vs := [.func (.func g) #[] vs.toArray]) (w := w) hT (by rw [hb2]; rfl) (by omega) (fun j v hj => by
        cases j with
        | zero => cases hj; exact g3
        | succ j => cases hj) fun _ => hb2
      rw [hag] at hr
      have e : SLP + g - SLF = SLF + g := by simp only [SLF, SLP]; omega
      rw [e] at h
      exact ⟨_, _, h, ⟨vs, .inr (.inl ⟨Nat.le_add_right _ _, b, g, g0, g1, g2, g3, .inl ⟨rfl, by simp only [SLF, SLP] at g0 ⊢; omega, rfl⟩⟩), hvl, hvs⟩, hr⟩
  case h_4 => exact (rn_fail h).elim
end
end Go.Sm
end

section
set_option linter.unusedVariables false
namespace Go.Sm
variable {T : Tbl} {α : Type}
/-- All blocks that may be read: those that never change, and those of objects. -/
def Env.X (e : Env) : Nat → Prop := fun b => e.K b ∨ ∃ r, e.fp r b
section
variable {Ok : Nat → List (A T) → Res T → Prop} {s s' : St T} {a : α} {P : Program} {e : Env} {w : World} {tm : Array Value}

theorem rn_refArr {q : Ref} {k : (t : Nat) → List (T.U t) → M T α} (h : Rn Ok (refArr q k) s a s') : ∃ t l, refInfo s q = some ⟨t, l⟩ ∧ NoHole s q ∧ Rn Ok (k t l) s a s' := by
  have h := rn_getO h
  split at h
  · rename_i t l ver nver dep pin ho
    split at h
    · rename_i hp
      obtain ⟨h1, h2⟩ := rn_cond h
      refine ⟨t, l, ?_, (fun i c e => by rw [hp] at e; cases e), h2⟩
      unfold refInfo
      simp only [ho, hp]
      rw [if_pos (nbeq h1)]
    · rename_i i c hp
      obtain ⟨h1, h2⟩ := rn_verM h
      obtain ⟨hnh, h2⟩ := rn_notHole h2
      obtain ⟨h3, h4⟩ := rn_must h2
      split at h4
      · rename_i t' l' hn
        refine ⟨t', l', ?_, (fun i2 c2 e t2 l2 ver2 nver2 m pin2 e2 => by
          rw [hp] at e; cases e
          rw [ho] at e2; cases e2
          exact hnh m rfl), h4⟩
        unfold refInfo
        simp only [ho, hp]
        rw [if_pos h1, if_pos h3]
        change (match (Go.Sm.row T t l i)[c]? with | some (.arr t' l') => some (⟨t', l'⟩ : (t : Nat) × List (T.U t)) | _ => none) = _
        rw [show (Go.Sm.row T t l i)[c]? = some (.arr t' l') from hn]
      · exact (rn_fail h4).elim
  · exact (rn_fail h).elim
theorem rn_refView {q : Ref} {k : (t : Nat) → List (T.U t) → M T α} (h : Rn Ok (refView q k) s a s') :
    ∃ t l, refInfo s q = some ⟨t, l⟩ ∧ ((q.p = none → ∃ ver nver dep pin, s.objs q.r = some (.arr t l ver nver dep pin) ∧ depView dep = true) ∧ NoHole s q) ∧ Rn Ok (k t l) s a s' := by
  unfold refView at h
  split at h
  · rename_i hp
    have h := rn_getO h
    split at h
    · rename_i t l ver nver dep pin ho
      obtain ⟨h1, h2⟩ := rn_cond h
      simp only [Bool.and_eq_true] at h1
      refine ⟨t, l, ?_, ⟨fun _ => ⟨ver, nver, dep, pin, ho, h1.2⟩, (fun i c e => by rw [hp] at e; cases e)⟩, h2⟩
      unfold refInfo
      simp only [ho, hp]
      rw [if_pos (nbeq h1.1)]
    · exact (rn_fail h).elim
  · rename_i x hp
    obtain ⟨t, l, h1, hnh, h2⟩ := rn_refArr h
    exact ⟨t, l, h1, ⟨(fun h => by rw [hp] at h; cases h), hnh⟩, h2⟩
/-- A part of a list, as a slice has it. -/
def IsCut {β : Type} (rng : Option (Nat × Nat)) (l l' : List β) : Prop :=
  match rng with
  | none => l' = l
  | some (off, len) => off + len ≤ l.length ∧ l' = (l.drop off).take len
theorem rn_cut {β : Type} {rng : Option (Nat × Nat)} {l : List β} {k : List β → M T α} (h : Rn Ok (cut rng l k) s a s') : ∃ l', IsCut rng l l' ∧ Rn Ok (k l') s a s' := by
  unfold cut at h
  split at h
  · exact ⟨l, rfl, h⟩
  · obtain ⟨h1, h2⟩ := rn_must h
    exact ⟨_, ⟨h1, rfl⟩, h2⟩
end
section
variable {s s' : St T} {P : Program} {e : Env} {w : World} {tm : Array Value}
theorem ArrOk.rep {K : Nat → Prop} {t : Nat} {l : List (T.U t)} {dep : Dep} {A : Option Addr} {c : Nat} {S : Nat → Prop} {vals : Nat → Nat → Value} {F : Nat → Nat → Nat → Prop}
    (h : ArrOk T w K t l dep A c S vals F) (hd : depView dep = true) : RepD T w (fun b => K b ∨ S b) (.arr t l) (.slice A l.length c) := by
  refine .arr t l A c vals h.hc h.hA (fun i j d hi hdd => ?_) (fun i j d hi hdd => ?_)
  · obtain ⟨b, off, e1, e2⟩ := h.hcell i j d hi hdd
    obtain ⟨b', off', cs, el, e3, e4, e5, e6⟩ := h.hblk (by have := h.hc; omega)
    rw [e1] at e3
    simp only [Option.some.injEq, Addr.mk.injEq] at e3
    exact ⟨b, off, e1, .inr (e3.1 ▸ e4), e2⟩
  · have hs := h.hsub i j d hi hdd
    have ho : OwnD T w d (vals i j) (F i j) → RepD T w (fun b => K b ∨ S b) d (vals i j) := fun x => x.rep.mono (fun b hb => .inr (h.hF i j b hb).1) fun _ _ => rfl
    cases dep with
    | all => exact ho hs
    | upto k => exact hs.elim (fun x => ho x.2) (fun x => x.2.mono (fun b hb => .inl hb) fun _ _ => rfl)
    | hole k => cases hd
theorem RepD.cut {K : Nat → Prop} {t : Nat} {l l' : List (T.U t)} {A : Option Addr} {c : Nat} {rng : Option (Nat × Nat)} {v : Value} (h : RepD T w K (.arr t l) (.slice A l.length c)) (hc : IsCut rng l l') (hs : SlOf A c l.length (T.size t) rng v) :
    RepD T w K (.arr t l') v := by
  cases rng with
  | none => simp only [IsCut, SlOf] at hc hs; subst hc; subst hs; exact h
  | some x =>
    obtain ⟨off, len⟩ := x
    obtain ⟨h1, rfl⟩ := hc
    obtain ⟨h2, A', rfl, h3⟩ := hs
    have hl : ((l.drop off).take len).length = len := by simp; omega
    generalize hn : l.length = n at h
    cases h with
    | arr _ _ _ _ vals hcc hA hcell hsub =>
      have hrow : ∀ i, i < len → Go.Sm.row T t ((l.drop off).take len) i = Go.Sm.row T t l (off + i) := by
        intro i hi
        unfold Go.Sm.row
        congr 1
        simp [List.getD_eq_getElem?_getD, List.getElem?_take, hi, List.getElem?_drop]
      have : RepD T w K (.arr t ((l.drop off).take len)) (.slice A' ((l.drop off).take len).length (c - off)) := by
        refine .arr t _ A' (c - off) (fun i j => vals (off + i) j) (by omega) (fun hne => ?_) (fun i j d hi hd => ?_) (fun i j d hi hd => ?_)
        · have h0 : 0 < len := by
            rcases Nat.eq_zero_or_pos len with h0 | h0
            · subst h0; simp at hne
            · exact h0
          obtain ⟨b, o, e1⟩ := hA (fun h => by subst h; simp at h1; omega)
          exact ⟨b, o + off * T.size t, by rw [h3 (by omega), e1]; simp [addr_add]⟩
        · rw [hl] at hi
          rw [hrow i hi] at hd
          obtain ⟨b, o, e1, e2, e3⟩ := hcell (off + i) j d (by omega) hd
          refine ⟨b, o + off * T.size t, by rw [h3 (by omega), e1]; simp [addr_add], e2, ?_⟩
          rw [show o + off * T.size t + i * T.size t + j = o + (off + i) * T.size t + j from by rw [Nat.add_mul]; omega]
          exact e3
        · rw [hl] at hi
          rw [hrow i hi] at hd
          exact hsub (off + i) j d (by omega) hd
      rw [hl] at this
      exact this
/-- What a reference to an array says, all of it in blocks that may be read. -/
theorem ref_rep (hR : Rel e s tm w) {q : Ref} {rng : Option (Nat × Nat)} {v : Value} (hr : RelRef e s w q rng v) {t : Nat} {l : List (T.U t)} (hi : refInfo s q = some ⟨t, l⟩)
    (hd : (q.p = none → ∃ ver nver dep pin, s.objs q.r = some (.arr t l ver nver dep pin) ∧ depView dep = true) ∧ NoHole s q) :
    ∃ A c, RepD T w e.X (.arr t l) (.slice A l.length c) ∧ SlOf A c l.length (T.size t) rng v := by
  obtain ⟨A, c, hat, hsl⟩ := hr.2.2 t l hi
  refine ⟨A, c, ?_, hsl⟩
  unfold RefAt at hat
  cases hp : q.p with
  | none =>
    simp only [hp] at hat
    obtain ⟨rfl, rfl⟩ := hat
    obtain ⟨ver, nver, dep, pin, ho, hv⟩ := hd.1 hp
    obtain ⟨vals, F, hA⟩ := hR.objs _ _ ho
    exact (hA.rep hv).mono (fun b hb => hb.imp id fun x => ⟨_, x⟩) fun _ _ => rfl
  | some ic =>
    obtain ⟨i, col⟩ := ic
    simp only [hp] at hat
    obtain ⟨t3, l3, ver3, nver3, dep3, pin3, b3, off3, n3, k1, k2, k3, k4⟩ := hat
    obtain ⟨_, hi0, hn⟩ := info_nonempty hp k1 hi
    obtain ⟨vals, F, hA⟩ := hR.objs _ _ k1
    have hsub := hA.hsub i col _ hi0 hn
    have hcell := hA.vals_at k3 hi0 hn
    rw [k4] at hcell
    have hown : OwnD T w (.arr t l) (vals i col) (F i col) := by
      cases dep3 with
      | all => exact hsub
      | upto m => exact hsub.elim (fun x => x.2) fun x => by have : i < m := k2; omega
      | hole m => exact hsub.elim (fun x => absurd x.1 (hd.2 _ _ hp _ _ _ _ _ _ k1)) id
    have hrep := hown.rep
    simp only [Option.some.injEq] at hcell
    rw [← hcell] at hrep
    have hn3 : n3 = l.length := by
      obtain ⟨A', c', vals', F', he, hA'⟩ := (OwnD.arr_iff e.K).1 hown
      rw [he] at hcell
      simp only [Value.slice.injEq] at hcell
      exact hcell.2.1
    subst hn3
    exact hrep.mono (fun b hb => .inr ⟨_, (hA.hF i col b hb).1⟩) fun _ _ => rfl
theorem RepD.X {d : D T.U} {v : Value} (h : RepD T w e.K d v) : RepD T w e.X d v := h.mono (fun b hb => .inl hb) fun _ _ => rfl
end
section
variable {Ok : Nat → List (A T) → Res T → Prop} {s s' : St T} {a : α} {P : Program} {e : Env} {w : World} {tm : Array Value}
theorem asArr_ok (hR : Rel e s tm w) {t : Nat} {c : C T} {u : Value} (hc : RelC e s w c u) {k : List (T.U t) → M T α} (h : Rn Ok (asArr t c k) s a s') :
    ∃ l, Rn Ok (k l) s a s' ∧ (RepD T w e.X (.arr t l) u ∨ (l = [] ∧ u = .slice none 0 0)) := by
  unfold asArr at h
  split at h
  · cases hc; exact ⟨[], h, .inr ⟨rfl, rfl⟩⟩
  · obtain ⟨rfl, h⟩ := rn_withL h
    exact ⟨_, h, .inl (RepD.X hc)⟩
  · obtain ⟨rfl, h⟩ := rn_withL h
    obtain ⟨A, rfl, hr⟩ := hc
    exact ⟨_, h, .inl hr.X⟩
  · obtain ⟨t', l, h1, h2, h⟩ := rn_refView h
    obtain ⟨rfl, h⟩ := rn_withL h
    obtain ⟨l', h3, h⟩ := rn_cut h
    obtain ⟨A, c, h4, h5⟩ := ref_rep hR hc h1 h2
    exact ⟨l', h, .inl (h4.cut h3 h5)⟩
  · exact (rn_fail h).elim
theorem viewC_ok (hR : Rel e s tm w) {c : C T} {u : Value} (hc : RelC e s w c u) {k : D T.U → M T α} (h : Rn Ok (viewC c k) s a s') :
    ∃ d, Rn Ok (k d) s a s' ∧ RepD T w e.X d u := by
  unfold viewC at h
  split at h
  · exact ⟨_, h, RepD.X hc⟩
  · obtain ⟨A, rfl, hr⟩ := hc
    exact ⟨_, h, hr.X⟩
  · obtain ⟨t', l, h1, h2, h⟩ := rn_refView h
    obtain ⟨l', h3, h⟩ := rn_cut h
    obtain ⟨A, c, h4, h5⟩ := ref_rep hR hc h1 h2
    exact ⟨_, h, h4.cut h3 h5⟩
  · exact (rn_fail h).elim
/-- Data, cell by cell. -/
def RepDs (T : Tbl) (w : World) (K : Nat → Prop) (ds : List (D T.U)) (vs : List Value) : Prop := vs.length = ds.length ∧ ∀ (j : Nat) (d : D T.U) (v : Value), ds[j]? = some d → vs[j]? = some v → RepD T w K d v
theorem RelCs.tail {c : C T} {cs : List (C T)} {v : Value} {vs : List Value} (h : RelCs e s w (c :: cs) (v :: vs)) : RelC e s w c v ∧ RelCs e s w cs vs :=
  ⟨h.2 0 c v rfl rfl, by have := h.1; simpa using this, fun j c u hc hu => h.2 (j + 1) c u (by simpa using hc) (by simpa using hu)⟩
theorem RepDs.fix {K : Nat → Prop} {ds : List (D T.U)} {vs : List Value} (h : RepDs T w K ds vs) (t : Nat) : RepDs T w K (T.fix t ds) vs :=
  ⟨by unfold Tbl.fix; rw [fixNil_length]; exact h.1, fun j d v hd hv => by
    obtain ⟨d0, h1, rfl | ⟨rfl, t', rfl⟩⟩ := fixNil_get _ _ _ _ hd
    · exact h.2 j _ v h1 hv
    · exact (h.2 j _ v h1 hv).ofNil t'⟩
theorem RepDs.cons {K : Nat → Prop} {d : D T.U} {ds : List (D T.U)} {v : Value} {vs : List Value} (h : RepD T w K d v) (k : RepDs T w K ds vs) : RepDs T w K (d :: ds) (v :: vs) :=
  ⟨by simp [k.1], fun j d' v' hd hv => by
    cases j with
    | zero => simp at hd hv; subst hd; subst hv; exact h
    | succ j => exact k.2 j d' v' (by simpa using hd) (by simpa using hv)⟩
theorem viewCs_ok (hR : Rel e s tm w) : ∀ {cs : List (C T)} {vs : List Value} (hc : RelCs e s w cs vs) {k : List (D T.U) → M T α} (h : Rn Ok (viewCs cs k) s a s'),
    ∃ ds, Rn Ok (k ds) s a s' ∧ RepDs T w e.X ds vs
  | [], vs, hc, k, h => ⟨[], h, by have := hc.1; exact ⟨by simpa using this, fun j d v hd => by simp at hd⟩⟩
  | c :: cs, [], hc, k, h => by have := hc.1; simp at this
  | c :: cs, v :: vs, hc, k, h => by
    obtain ⟨h1, h2⟩ := hc.tail
    obtain ⟨d, h, h3⟩ := viewC_ok hR h1 h
    obtain ⟨ds, h, h4⟩ := viewCs_ok hR h2 h
    exact ⟨_, h, .cons h3 h4⟩
end
end Go.Sm
end

section
set_option linter.unusedVariables false
namespace Go.Sm
variable {T : Tbl} {α : Type}
section
variable {Ok : Nat → List (A T) → Res T → Prop} {s s' : St T} {a : α} {P : Program} {e : Env} {w : World} {tm : Array Value}

/-! ### Addresses -/
theorem run_fieldAt (hT : TblOk P T) {t f off : Nat} (ho : offOf T t f = some off) (ad : Addr) : (Instr.fieldAt t (.pointer (some ad)) f).run P w = .ok (.pointer (some (ad.add off))) w := by
  unfold offOf at ho
  split at ho
  · rename_i fs hty
    obtain ⟨fields, h1, rfl, h2⟩ := hT.struct t _ hty
    obtain ⟨x, hx, rfl⟩ := Option.map_eq_some_iff.1 ho
    rw [List.getElem?_map] at hx
    obtain ⟨fd, hfd, rfl⟩ := Option.map_eq_some_iff.1 hx
    have hfd' : fields[f]? = some fd := by simpa using hfd
    have hsz := (h2 fd (List.mem_of_getElem? hfd)).1
    unfold Instr.fieldAt
    simp only [Sem.run_bind, run_underlying h1, Result.andThen_ok, hfd', Instr.sureAddr, Sem.run_pure, fieldPlace, run_size hT hsz]
    rw [if_neg (by omega)]
    rfl
  · cases ho
theorem fieldAddrM_ok (hT : TblOk P T) {t f : Nat} {c : C T} {u : Value} (hc : RelC e s w c u) {k : C T → M T α} (h : Rn Ok (fieldAddrM t c f k) s a s') :
    ∃ c' val, Rn Ok (k c') s a s' ∧ RelC e s w c' val ∧ (Instr.fieldAt t u f).run P w = .ok val w := by
  unfold fieldAddrM at h
  split at h
  · rename_i off q row col ho
    obtain ⟨hl, ⟨ad, rfl⟩, h1, h2⟩ := hc
    refine ⟨_, _, h, ⟨hl, ⟨_, rfl⟩, fun cs hcs hz => ?_, fun t' l hi => ?_⟩, run_fieldAt hT ho ad⟩
    · obtain ⟨b, e1, e2⟩ := h1 cs hcs hz
      simp only [Value.pointer.injEq, Option.some.injEq] at e2
      subst e2
      exact ⟨b, e1, by rw [addr_add]⟩
    · obtain ⟨b, o, cc, e1, e2⟩ := h2 t' l hi
      simp only [Value.pointer.injEq, Option.some.injEq] at e2
      subst e2
      exact ⟨b, o, cc, e1, by rw [addr_add, Nat.add_assoc]⟩
  · rename_i off t' x col ho
    obtain ⟨b, o, vals, rfl, h1⟩ := hc
    refine ⟨_, _, h, ⟨b, o, vals, ?_, h1⟩, run_fieldAt hT ho _⟩
    rw [addr_add, Nat.add_assoc]
  · exact (rn_fail h).elim
theorem rn_idx {n : Int} {len : Nat} {k : Nat → M T α} (h : Rn Ok (idx n len k) s a s') : ∃ i : Nat, n = i ∧ i < len ∧ Rn Ok (k i) s a s' := by
  obtain ⟨h1, h⟩ := rn_must h
  obtain ⟨h2, h⟩ := rn_must h
  exact ⟨n.toNat, by omega, by omega, h⟩
/-- Where an array that a reference names begins, when it has elements. -/
theorem ref_addr (hR : Rel e s tm w) {q : Ref} {A : Option Addr} {c t : Nat} {l : List (T.U t)} (hi : refInfo s q = some ⟨t, l⟩) (hat : RefAt e s w q A c) (hnh : NoHole s q) :
    l.length ≤ c ∧ (l ≠ [] → ∃ b off, A = some ⟨b, off, none⟩) ∧ (0 < c → ∃ b off, A = some ⟨b, off, none⟩) := by
  unfold RefAt at hat
  cases hp : q.p with
  | none =>
    simp only [hp] at hat
    obtain ⟨rfl, rfl⟩ := hat
    unfold refInfo at hi
    split at hi
    · rename_i t1 l1 ver nver dep pin ho
      simp only [hp] at hi
      split at hi
      · simp only [Option.some.injEq, Sigma.mk.injEq] at hi
        obtain ⟨rfl, hi⟩ := hi
        cases hi
        obtain ⟨vals, F, hA⟩ := hR.objs _ _ ho
        exact ⟨hA.hc, hA.hA, fun h0 => by obtain ⟨b, off, _, _, h1, _⟩ := hA.hblk h0; exact ⟨b, off, h1⟩⟩
      · cases hi
    · cases hi
  | some ic =>
    obtain ⟨i, col⟩ := ic
    simp only [hp] at hat
    obtain ⟨t3, l3, ver3, nver3, dep3, pin3, b3, off3, n3, k1, k2, k3, k4⟩ := hat
    obtain ⟨_, hi0, hn⟩ := info_nonempty hp k1 hi
    obtain ⟨vals, F, hA⟩ := hR.objs _ _ k1
    have hsub := hA.hsub i col _ hi0 hn
    have hcell := hA.vals_at k3 hi0 hn
    rw [k4] at hcell
    have hown : OwnD T w (.arr t l) (vals i col) (F i col) := by
      cases dep3 with
      | all => exact hsub
      | upto m => exact hsub.elim (fun x => x.2) fun x => by have : i < m := k2; omega
      | hole m => exact hsub.elim (fun x => absurd x.1 (hnh _ _ hp _ _ _ _ _ _ k1)) id
    obtain ⟨A', c', vals', F', he, hA'⟩ := (OwnD.arr_iff e.K).1 hown
    rw [he] at hcell
    simp only [Option.some.injEq, Value.slice.injEq] at hcell
    obtain ⟨rfl, -, rfl⟩ := hcell
    exact ⟨hA'.hc, hA'.hA, fun h0 => by obtain ⟨b, off, _, _, h1, _⟩ := hA'.hblk h0; exact ⟨b, off, h1⟩⟩
theorem run_indexAt_slice (hT : TblOk P T) {t el : Nat} (hty : T.ty t = .slice el) (hs : 0 < T.size el) {b off n c : Nat} {ki : IntKind} {i : Nat} (hi : i < n) :
    (Instr.indexAt t (.slice (some ⟨b, off, none⟩) n c) (.int ki (i : Int))).run P w = .ok (.pointer (some ⟨b, off + i * T.size el, none⟩)) w := by
  have hu := hT.slice _ _ hty
  unfold Instr.indexAt
  simp only [Sem.run_bind, run_underlying hu, Result.andThen_ok, asIntOf, Sem.run_pure, Bool.and_false]
  simp [run_size hT hs, hi, addr_add]
theorem indexAddrM_ok (hT : TblOk P T) (hR : Rel e s tm w) {t : Nat} {c : C T} {u : Value} (hc : RelC e s w c u) {ki : IntKind} {n : Int} {k : C T → M T α} (h : Rn Ok (indexAddrM t c n k) s a s')
    (hsz : ∀ el, T.ty t = .slice el → 0 < T.size el) (hsa : ∀ m el, T.ty t = .arr m el → 0 < T.size el) :
    ∃ c' val, Rn Ok (k c') s a s' ∧ RelC e s w c' val ∧ (Instr.indexAt t u (.int ki n)).run P w = .ok val w := by
  unfold indexAddrM at h
  split at h
  · rename_i el q t0 rng ex hty
    obtain ⟨t', l, hi, hnh, h9⟩ := rn_refArr h
    clear h
    have h := h9
    clear h9
    obtain ⟨hte, h9⟩ := rn_cond h
    clear h
    have h := h9
    clear h9
    have hte := nbeq hte
    subst hte
    obtain ⟨hlive, _, hr⟩ := hc
    obtain ⟨A, cc, hat, hsl⟩ := hr _ _ hi
    obtain ⟨hcap, hA, _⟩ := ref_addr hR hi hat hnh
    have fin : ∀ (off i len : Nat), u = .slice (A.map (·.add (off * T.size t'))) len (cc - off) → i < len → off + len ≤ l.length →
        RelC e s w (.ptr q (off + i) 0) (match A with | some ad => .pointer (some (ad.add ((off + i) * T.size t'))) | none => undef) ∧
        (Instr.indexAt t u (.int ki (i : Int))).run P w = .ok (match A with | some ad => .pointer (some (ad.add ((off + i) * T.size t'))) | none => undef) w := by
      intro off i len hu hlt hle
      obtain ⟨b, o, rfl⟩ := hA (by intro h0; subst h0; simp at hle; omega)
      simp only [Option.map_some, addr_add] at hu ⊢
      refine ⟨⟨hlive, ⟨_, rfl⟩, fun cs hcs _ => ?_, fun t2 l2 hi2 => ?_⟩, ?_⟩
      · unfold refInfo at hi; rw [hcs] at hi; cases hi
      · rw [hi] at hi2
        simp only [Option.some.injEq, Sigma.mk.injEq] at hi2
        obtain ⟨rfl, _⟩ := hi2
        exact ⟨b, o, cc, hat, rfl⟩
      · rw [hu, run_indexAt_slice hT hty (hsz _ hty) hlt]
        rw [Nat.add_mul, Nat.add_assoc]
    cases rng with
    | none =>
      obtain ⟨i, rfl, hlt, h⟩ := rn_idx h
      simp only [SlOf] at hsl
      obtain ⟨b, o, rfl⟩ := hA (by intro h0; subst h0; simp at hlt)
      have := fin 0 i l.length (by rw [hsl]; simp [addr_add]) hlt (by omega)
      simp only [Nat.zero_add] at this
      exact ⟨_, _, h, this⟩
    | some x =>
      obtain ⟨off, len⟩ := x
      obtain ⟨hle, h⟩ := rn_must h
      obtain ⟨i, rfl, hlt, h⟩ := rn_idx h
      obtain ⟨_, A', rfl, h3⟩ := hsl
      exact ⟨_, _, h, fin off i len (by rw [h3 (by omega)]) hlt hle⟩
  · rename_i el t' l hty
    obtain ⟨hte, h9⟩ := rn_cond h
    clear h
    have h := h9
    clear h9
    have hte := nbeq hte
    subst hte
    obtain ⟨i, rfl, hlt, h⟩ := rn_idx h
    cases hc with
    | arr _ _ A cc vals hcc hA hcell hsub =>
      obtain ⟨b, off, rfl⟩ := hA (by intro h0; subst h0; simp at hlt)
      refine ⟨_, _, h, ⟨b, off + i * T.size t', fun j => vals i j, ?_, fun j d hd => ?_⟩, run_indexAt_slice hT hty (hsz _ hty) hlt⟩
      · rw [Nat.add_zero]
      · obtain ⟨b', o', e1, e2, e3⟩ := hcell i j d hlt hd
        simp only [Option.some.injEq, Addr.mk.injEq, and_true] at e1
        obtain ⟨rfl, rfl⟩ := e1
        exact ⟨e2, e3, hsub i j d hlt hd⟩
  · rename_i el t' l hty
    obtain ⟨hte, h9⟩ := rn_cond h
    clear h
    have h := h9
    clear h9
    have hte := nbeq hte
    subst hte
    obtain ⟨i, rfl, hlt, h⟩ := rn_idx h
    obtain ⟨A, rfl, hr⟩ := hc
    obtain ⟨A', cc, vals, he, hcc, hA, hcell, hsub⟩ := hr.arr_inv
    simp only [Value.slice.injEq, true_and] at he
    obtain ⟨rfl, rfl⟩ := he
    obtain ⟨b, off, rfl⟩ := hA (by intro h0; subst h0; simp at hlt)
    refine ⟨_, _, h, ⟨b, off + i * T.size t', fun j => vals i j, ?_, fun j d hd => ?_⟩, run_indexAt_slice hT hty (hsz _ hty) hlt⟩
    · rw [Nat.add_zero]
    · obtain ⟨b', o', e1, e2, e3⟩ := hcell i j d hlt hd
      simp only [Option.some.injEq, Addr.mk.injEq, and_true] at e1
      obtain ⟨rfl, rfl⟩ := e1
      exact ⟨e2, e3, hsub i j d hlt hd⟩
  · rename_i m el q row col hty
    obtain ⟨i, rfl, hlt, h⟩ := rn_idx h
    obtain ⟨hl, ⟨ad, rfl⟩, h1, h2⟩ := hc
    refine ⟨_, .pointer (some (ad.add (i * T.size el))), h, ⟨hl, ⟨_, rfl⟩, fun cs hcs hz => ?_, fun t' l hi => ?_⟩, ?_⟩
    · obtain ⟨b, e1, e2⟩ := h1 cs hcs hz
      simp only [Value.pointer.injEq, Option.some.injEq] at e2
      subst e2
      exact ⟨b, e1, by rw [addr_add]⟩
    · obtain ⟨b, o, cc, e1, e2⟩ := h2 t' l hi
      simp only [Value.pointer.injEq, Option.some.injEq] at e2
      subst e2
      exact ⟨b, o, cc, e1, by rw [addr_add, Nat.add_assoc]⟩
    · unfold Instr.indexAt
      simp [run_underlying (hT.arr _ _ _ hty), asIntOf, Instr.sureAddr, run_size hT (hsa _ _ hty), hlt]
  · rename_i m el t' x col hty
    obtain ⟨i, rfl, hlt, h⟩ := rn_idx h
    obtain ⟨b, o, vals, rfl, h1⟩ := hc
    refine ⟨_, _, h, ⟨b, o, vals, rfl, h1⟩, ?_⟩
    unfold Instr.indexAt
    simp [run_underlying (hT.arr _ _ _ hty), asIntOf, Instr.sureAddr, run_size hT (hsa _ _ hty), hlt, addr_add, Nat.add_assoc]
  · exact (rn_fail h).elim
end
end Go.Sm
end

section
set_option linter.unusedVariables false
namespace Go.Sm
variable {T : Tbl} {α : Type}
theorem beq_bytes (a b : ByteArray) : (a.toList == b.toList) = decide (a = b) := by
  rw [ByteArray.toList_eq, ByteArray.toList_eq]
  by_cases h : a = b
  · subst h; simp
  · rw [decide_eq_false h, beq_eq_false_iff_ne]
    intro e
    exact h (WideShapes.bytes_inj e)
section
variable {Ok : Nat → List (A T) → Res T → Prop} {s s' : St T} {a : α} {P : Program} {e : Env} {w : World} {tm : Array Value}

/-! ### Numbers -/
def runBin (P : Program) (op : BinOp) (t : Nat) (x y : Operand) (u v : Value) (w : World) : Result Value := ((do eqGuard op t x y u v; binOp op t u v) : Sem Value).run P w
theorem rn_ite {p : Prop} [Decidable p] {x : M T α} (h : Rn Ok (if p then x else .fail) s a s') : p ∧ Rn Ok x s a s' := by
  split at h
  · exact ⟨‹_›, h⟩
  · exact (rn_fail h).elim
theorem binD_ok {op : BinOp} {t : Nat} {x y : Operand} {d1 d2 : D T.U} {u v : Value} {K : Nat → Prop} (h1 : RepD T w K d1 u) (h2 : RepD T w K d2 v) {k : D T.U → M T α} (h : Rn Ok (binD op d1 d2 k) s a s') :
    ∃ d val, Rn Ok (k d) s a s' ∧ RepD T w K d val ∧ runBin P op t x y u v w = .ok val w := by
  unfold binD at h
  split at h
  · rename_i ki m _ n
    cases h1; cases h2
    obtain ⟨h0, h⟩ := rn_must h
    refine ⟨_, _, h, .int _ _, ?_⟩
    simp [runBin, eqGuard, Go.binOp, Op.shift, show ¬ n < 0 by omega]
  · rename_i ki m _ n
    cases h1; cases h2
    obtain ⟨h0, h⟩ := rn_must h
    refine ⟨_, _, h, .int _ _, ?_⟩
    simp [runBin, eqGuard, Go.binOp, Op.shift, show ¬ n < 0 by omega]
  · rename_i ki m kj n _ _
    cases h1; cases h2
    have hX := rn_ite h
    clear h
    obtain ⟨rfl, h⟩ := hX
    split at h
    all_goals
      first
      | exact (rn_fail h).elim
      | (refine ⟨_, _, h, .int _ _, ?_⟩; simp [runBin, eqGuard, Go.binOp, Op.intArith, Op.intBits]; done)
      | (refine ⟨_, _, h, .bool _, ?_⟩; simp [runBin, eqGuard, Go.binOp, Op.intCmp]; done)
      | (refine ⟨_, _, h, .bool _, ?_⟩; simp [runBin, eqGuard, Go.binOp, Op.intCmp]; rfl)
      | (obtain ⟨h0, h⟩ := rn_not h; refine ⟨_, _, h, .int _ _, ?_⟩; simp [runBin, eqGuard, Go.binOp, Op.intDiv, h0]; done)
  · rename_i m n
    cases h1; cases h2
    obtain ⟨h0, h⟩ := rn_must h
    refine ⟨_, _, h, .str _, ?_⟩
    have hmax : IntKind.i64.max = 9223372036854775807 := by decide
    have h9 : ¬ (9223372036854775807 < ((m.size + n.size : Nat) : Int)) := by omega
    simp only [runBin, eqGuard, Go.binOp, Op.stringOp, hmax]
    simp only [gt_iff_lt, h9, if_false]
    simp
  · cases h1; cases h2
    refine ⟨_, _, h, .bool _, ?_⟩
    simp [runBin, eqGuard, Go.binOp, Op.stringOp, beq_bytes]
  · cases h1; cases h2
    refine ⟨_, _, h, .bool _, ?_⟩
    simp [runBin, eqGuard, Go.binOp, Op.stringOp, beq_bytes]
  · cases h1; cases h2
    refine ⟨_, _, h, .bool _, ?_⟩
    simp [runBin, eqGuard, Go.binOp, Op.stringOp]
  · exact (rn_fail h).elim
theorem unM_ok {op : UnOp} {x : V T} {u : Value} (hx : RelV e s w x u) {k : V T → M T α} (h : Rn Ok (unM op x k) s a s') :
    ∃ v val, Rn Ok (k v) s a s' ∧ RelV e s w v val ∧ (Op.unary op u).run P w = .ok val w := by
  unfold unM at h
  split at h
  · cases hx
    exact ⟨_, _, h, .bool _, by simp [Op.unary]⟩
  · cases hx
    exact ⟨_, _, h, .int _ _, by simp [Op.unary, Op.intArith]⟩
  · exact (rn_fail h).elim
end
end Go.Sm
end

section
set_option linter.unusedVariables false
namespace Go.Sm
variable {T : Tbl} {α : Type}
section
variable {Ok : Nat → List (A T) → Res T → Prop} {s s' : St T} {a : α} {P : Program} {e : Env} {w : World} {tm : Array Value}

theorem csD_get : ∀ {cs : List (C T)} {ds : List (D T.U)}, csD cs = some ds → cs = ds.map .d
  | [], ds, h => by simp [csD] at h; subst h; rfl
  | c :: cs, ds, h => by
    cases c <;> simp only [csD, reduceCtorEq] at h
    obtain ⟨ds', h1, rfl⟩ := Option.map_eq_some_iff.1 h
    rw [csD_get h1]; rfl
theorem plain_of_shaped : ∀ {zs : List Value} {ds : List (D T.U)}, shaped zs ds = true → ∀ (K : Nat → Prop) (j : Nat) (d : D T.U) (v : Value), ds[j]? = some d → RepD T w K d v → plainD d v
  | [], [], _, K, j, d, v, hd, _ => by simp at hd
  | _ :: _, [], h, K, j, d, v, hd, _ => by simp at hd
  | [], _ :: _, h, K, j, d, v, hd, _ => by simp [shaped] at h
  | z :: zs, x :: ds, h, K, j, d, v, hd, hv => by
    cases j with
    | zero =>
      simp only [List.getElem?_cons_zero, Option.some.injEq] at hd
      subst hd
      cases hv with
      | bool b => rfl
      | int k n => rfl
      | str s => rfl
      | nil => cases z <;> simp [shaped] at h
      | arr => cases z <;> simp [shaped] at h
      | fn => cases z <;> simp [shaped] at h
    | succ j =>
      have h' : shaped zs ds = true := by cases z <;> cases x <;> simp_all [shaped]
      exact plain_of_shaped h' K j d v (by simpa using hd) hv
theorem run_equal_ptr (hT : TblOk P T) {t el : Nat} (hty : T.ty t = .ptr el) (u : Option Addr) (w : World) : (Op.equal t (.pointer u) (.pointer none)).run P w = .ok u.isNone w := by
  have hu := hT.ptr _ _ hty
  have key : ∀ d, (Op.equalIn (d + 1) t (.pointer u) (.pointer none)).run P w = .ok u.isNone w := by
    intro d
    cases u <;> simp [Op.equalIn, run_underlying hu]
  exact key 9999
theorem run_equal_bool (hT : TblOk P T) {t : Nat} (hty : T.ty t = .bool) (x y : Bool) (w : World) : (Op.equal t (.bool x) (.bool y)).run P w = .ok (x == y) w := by
  have hu := hT.bool _ hty
  have key : ∀ d, (Op.equalIn (d + 1) t (.bool x) (.bool y)).run P w = .ok (x == y) w := by
    intro d
    simp [Op.equalIn, run_underlying hu]
  exact key 9999
theorem run_ptr_eql (hT : TblOk P T) {t el : Nat} (hty : T.ty t = .ptr el) (x y : Operand) (u : Option Addr) :
    runBin P .eql t x y (.pointer u) (.pointer none) w = .ok (.bool u.isNone) w ∧ runBin P .neq t x y (.pointer u) (.pointer none) w = .ok (.bool (!u.isNone)) w := by
  constructor <;> simp [runBin, eqGuard, Go.binOp, run_equal_ptr hT hty]
theorem binM_ok (hT : TblOk P T) {op : BinOp} {t : Nat} {x y : Operand} {v1 v2 : V T} {u v : Value} (h1 : RelV e s w v1 u) (h2 : RelV e s w v2 v) {k : V T → M T α} (h : Rn Ok (binM op t v1 v2 k) s a s') :
    ∃ r val, Rn Ok (k r) s a s' ∧ RelV e s w r val ∧ runBin P op t x y u v w = .ok val w := by
  unfold binM at h
  split at h
  · split at h
    · rename_i hty
      simp only [RelV, RelC, RelC0] at h1 h2
      subst h1; subst h2
      exact ⟨_, _, h, .bool _, by simpa using (run_ptr_eql hT hty x y none).1⟩
    · exact (rn_fail h).elim
  · split at h
    · rename_i hty
      simp only [RelV, RelC, RelC0] at h1 h2
      subst h1; subst h2
      exact ⟨_, _, h, .bool _, by simpa using (run_ptr_eql hT hty x y none).2⟩
    · exact (rn_fail h).elim
  · split at h
    · rename_i hty
      simp only [RelV, RelC, RelC0] at h1 h2
      obtain ⟨_, ⟨ad, rfl⟩, _⟩ := h1
      subst h2
      exact ⟨_, _, h, .bool _, by simpa using (run_ptr_eql hT hty x y (some ad)).1⟩
    · exact (rn_fail h).elim
  · split at h
    · rename_i hty
      simp only [RelV, RelC, RelC0] at h1 h2
      obtain ⟨_, ⟨ad, rfl⟩, _⟩ := h1
      subst h2
      exact ⟨_, _, h, .bool _, by simpa using (run_ptr_eql hT hty x y (some ad)).2⟩
    · exact (rn_fail h).elim
  · split at h
    · rename_i hty
      cases h1; cases h2
      refine ⟨_, _, h, .bool _, ?_⟩
      simp [runBin, eqGuard, Go.binOp, run_equal_bool hT hty]
    · exact (rn_fail h).elim
  · split at h
    · rename_i hty
      cases h1; cases h2
      refine ⟨_, _, h, .bool _, ?_⟩
      simp [runBin, eqGuard, Go.binOp, run_equal_bool hT hty]
    · exact (rn_fail h).elim
  · obtain ⟨d, val, h3, h4, h5⟩ := binD_ok (t := t) (x := x) (y := y) h1 h2 h
    exact ⟨_, _, h3, h4, h5⟩
  · have hX := rn_cond h
    clear h
    obtain ⟨hce, h⟩ := hX
    split at h
    · rename_i ds1 ds2 hd1 hd2
      have hX := rn_cond h
      clear h
      obtain ⟨hsh, h⟩ := hX
      simp only [Bool.and_eq_true] at hsh
      obtain ⟨us, rfl, hl1, g1⟩ := h1
      obtain ⟨vs, rfl, hl2, g2⟩ := h2
      have e1 := csD_get hd1
      have e2 := csD_get hd2
      subst e1; subst e2
      have p1 : ∀ (j : Nat) (d : D T.U) (v : Value), ds1[j]? = some d → us[j]? = some v → plainD d v := fun j d v hd hv => plain_of_shaped (w := w) hsh.1 e.K j d v hd (g1 j (.d d) v (by rw [List.getElem?_map, hd]; rfl) hv)
      have p2 : ∀ (j : Nat) (d : D T.U) (v : Value), ds2[j]? = some d → vs[j]? = some v → plainD d v := fun j d v hd hv => plain_of_shaped (w := w) hsh.2 e.K j d v hd (g2 j (.d d) v (by rw [List.getElem?_map, hd]; rfl) hv)
      split at h
      · rename_i r hr
        obtain ⟨k1, k2⟩ := hT.eqs t hce w ds1 ds2 us vs r hsh.1 hsh.2 hr (by simpa using hl1) (by simpa using hl2) p1 p2
        refine ⟨_, _, h, .bool _, ?_⟩
        simp [runBin, eqGuard, Go.binOp, k1, k2, program, Sem.run]
      · rename_i r hr
        obtain ⟨k1, k2⟩ := hT.eqs t hce w ds1 ds2 us vs r hsh.1 hsh.2 hr (by simpa using hl1) (by simpa using hl2) p1 p2
        refine ⟨_, _, h, .bool _, ?_⟩
        simp [runBin, eqGuard, Go.binOp, k1, k2, program, Sem.run]
      · exact (rn_fail h).elim
    · exact (rn_fail h).elim
  · exact (rn_fail h).elim

/-! ### Lengths, parts -/
theorem ref_len (hR : Rel e s tm w) {q : Ref} {rng : Option (Nat × Nat)} {v : Value} (hr : RelRef e s w q rng v) {t : Nat} {l : List (T.U t)} (hi : refInfo s q = some ⟨t, l⟩) :
    ∃ A c, v = .slice A (match rng with | none => l.length | some (_, len) => len) c := by
  obtain ⟨A, c, _, hs⟩ := hr.2.2 _ _ hi
  cases rng with
  | none => exact ⟨A, c, hs⟩
  | some x => obtain ⟨_, A', h, _⟩ := hs; exact ⟨A', _, h⟩
theorem lenM_ok (hT : TblOk P T) (hR : Rel e s tm w) {t ty : Nat} {c : C T} {u : Value} (hc : RelC e s w c u) {k : Nat → M T α} (h : Rn Ok (lenM t c k) s a s') (ts : List Nat) :
    ∃ n : Nat, Rn Ok (k n) s a s' ∧ (Builtin.len_ (t :: ts).toArray ty #[u]).run P w = .ok (.int .i64 n) w := by
  unfold lenM at h
  split at h
  · rename_i hty
    cases hc
    exact ⟨_, h, by simp [Builtin.len_, run_underlying (hT.slice _ _ hty), goInt]⟩
  · rename_i hty
    obtain ⟨A, cc, vals, rfl, _⟩ := RepD.arr_inv hc
    exact ⟨_, h, by simp [Builtin.len_, run_underlying (hT.slice _ _ hty), goInt]⟩
  · rename_i hty
    cases hc
    exact ⟨_, h, by simp [Builtin.len_, run_underlying (hT.str _ hty), goInt]⟩
  · rename_i hty
    obtain ⟨A, rfl, _⟩ := hc
    exact ⟨_, h, by simp [Builtin.len_, run_underlying (hT.slice _ _ hty), goInt]⟩
  · rename_i hty
    obtain ⟨t', l, hi, hnh, h⟩ := rn_refArr h
    obtain ⟨A, cc, rfl⟩ := ref_len hR hc hi
    exact ⟨_, h, by simp [Builtin.len_, run_underlying (hT.slice _ _ hty), goInt]⟩
  · rename_i hty
    obtain ⟨t', l, hi, hnh, h⟩ := rn_refArr h
    obtain ⟨_, h⟩ := rn_must h
    obtain ⟨A, cc, rfl⟩ := ref_len hR hc hi
    exact ⟨_, h, by simp [Builtin.len_, run_underlying (hT.slice _ _ hty), goInt]⟩
  · rename_i kt et r hty
    have h := rn_getO h
    split at h
    · rename_i kt' et' l ho
      obtain ⟨_, _, h3⟩ := hc
      obtain ⟨b, e1, rfl⟩ := h3 _ _ _ ho
      obtain ⟨b', es, clk, e2, e3, e4, e5, _⟩ := hR.objs _ _ ho
      rw [e1] at e2
      simp only [Option.some.injEq, Addr.mk.injEq, and_true] at e2
      subst e2
      refine ⟨_, h, ?_⟩
      simp [Builtin.len_, run_underlying (hT.map _ _ _ hty), getObj, Sem.run, e4, goInt, e5]
    · exact (rn_fail h).elim
  · exact (rn_fail h).elim

/-- An int that may be left out, and its value. -/
def OptV : Option Int → Option Value → Prop
  | none, none => True
  | some n, some v => ∃ k, v = .int k n
  | _, _ => False
theorem rn_bounds {len : Nat} {lo hi : Option Int} {k : Nat → Nat → M T α} (h : Rn Ok (boundsM len lo hi k) s a s') :
    ∃ l r : Nat, Rn Ok (k l r) s a s' ∧ l ≤ r ∧ r ≤ len ∧ (∀ n, lo = some n → n = l) ∧ (lo = none → l = 0) ∧ (∀ n, hi = some n → n = r) ∧ (hi = none → r = len) := by
  unfold boundsM at h
  split at h
  · exact ⟨0, len, h, by omega, by omega, by simp, by simp, by simp, by simp⟩
  · rename_i n
    obtain ⟨h1, h⟩ := rn_must h
    obtain ⟨h2, h⟩ := rn_must h
    exact ⟨0, n.toNat, h, by omega, by omega, by simp, by simp, (by intro m hm; cases hm; omega), by simp⟩
  · rename_i n
    obtain ⟨h1, h⟩ := rn_must h
    obtain ⟨h2, h⟩ := rn_must h
    exact ⟨n.toNat, len, h, by omega, by omega, (by intro m hm; cases hm; omega), by simp, by simp, by simp⟩
  · rename_i n m
    obtain ⟨h1, h⟩ := rn_must h
    obtain ⟨h2, h⟩ := rn_must h
    obtain ⟨h3, h⟩ := rn_must h
    obtain ⟨h4, h⟩ := rn_must h
    exact ⟨n.toNat, m.toNat, h, by omega, by omega, (by intro m hm; cases hm; omega), by simp, (by intro m hm; cases hm; omega), by simp⟩
theorem run_sliceBound {k : IntKind} {n y : Nat} (h : n ≤ y) (code : BoundsCode) : (Instr.sliceBound (.int k (n : Int)) y code).run P w = .ok n w := by
  simp [Instr.sliceBound, asIntOf, h]
theorem run_sliceBounds {isS : Bool} {len cap l r : Nat} {lo hi : Option Int} {lv hv : Option Value} (hlv : OptV lo lv) (hhv : OptV hi hv) (h1 : l ≤ r) (h2 : r ≤ cap) (h3 : ∀ n, lo = some n → n = (l : Int)) (h4 : lo = none → l = 0)
    (h5 : ∀ n, hi = some n → n = (r : Int)) (h6 : hi = none → r = len) : (Instr.sliceBounds isS len cap lv hv none).run P w = .ok (l, r, cap) w := by
  unfold Instr.sliceBounds
  cases lo with
  | none =>
    cases lv with
    | some v => cases hlv
    | none =>
      have := h4 rfl
      subst this
      cases hi with
      | none =>
        cases hv with
        | some v => cases hhv
        | none => simp [h6 rfl]
      | some n =>
        cases hv with
        | none => cases hhv
        | some v =>
          obtain ⟨k, rfl⟩ := hhv
          rw [h5 n rfl]
          simp [run_sliceBound h2]
  | some m =>
    cases lv with
    | none => cases hlv
    | some v =>
      obtain ⟨k, rfl⟩ := hlv
      rw [h3 m rfl]
      cases hi with
      | none =>
        cases hv with
        | some v => cases hhv
        | none => have := h6 rfl; subst this; simp [run_sliceBound h1]
      | some n =>
        cases hv with
        | none => cases hhv
        | some v =>
          obtain ⟨k', rfl⟩ := hhv
          rw [h5 n rfl]
          simp [run_sliceBound h2, run_sliceBound h1]
theorem run_sliceBounds3 {isS : Bool} {len cap l r : Nat} {lo : Option Int} {lv : Option Value} {k k2 : IntKind} (hlv : OptV lo lv) (h1 : l ≤ r) (h2 : r ≤ cap) (h3 : ∀ n, lo = some n → n = (l : Int)) (h4 : lo = none → l = 0) :
    (Instr.sliceBounds isS len cap lv (some (.int k (r : Int))) (some (.int k2 (r : Int)))).run P w = .ok (l, r, r) w := by
  unfold Instr.sliceBounds
  cases lo with
  | none =>
    cases lv with
    | some v => cases hlv
    | none =>
      have := h4 rfl
      subst this
      simp [run_sliceBound h2, run_sliceBound (Nat.le_refl r)]
  | some m =>
    cases lv with
    | none => cases hlv
    | some v =>
      obtain ⟨k', rfl⟩ := hlv
      rw [h3 m rfl]
      simp [run_sliceBound h2, run_sliceBound h1, run_sliceBound (Nat.le_refl r)]
theorem cutL_eq {β : Type} {l : List β} {lo hi : Option Int} {i r : Nat} (h0 : r ≤ l.length) (h1 : i ≤ r) (h3 : ∀ n, lo = some n → n = (i : Int)) (h4 : lo = none → i = 0) (h5 : ∀ n, hi = some n → n = (r : Int)) (h6 : hi = none → r = l.length) :
    cutL l lo hi = (l.drop i).take (r - i) := by
  unfold cutL
  cases lo with
  | none =>
    have := h4 rfl
    subst this
    cases hi with
    | none => have := h6 rfl; subst this; simp
    | some n => have := h5 n rfl; subst this; simp
  | some m =>
    have := h3 m rfl
    subst this
    cases hi with
    | none => have := h6 rfl; subst this; simp [List.take_of_length_le]
    | some n =>
      have := h5 n rfl
      subst this
      simp only [Int.toNat_natCast]
      rw [List.take_drop]
      congr 2
      omega
end
end Go.Sm
end

section
set_option linter.unusedVariables false
namespace Go.Sm
variable {T : Tbl} {α : Type}
section
variable {Ok : Nat → List (A T) → Res T → Prop} {s s' : St T} {a : α} {P : Program} {e e' : Env} {w w' W0 : World} {M0 : Gh} {tm : Array Value}

theorem RepD.sub {K : Nat → Prop} {t : Nat} {l : List (T.U t)} {A : Option Addr} {c i r : Nat} (h : RepD T w K (.arr t l) (.slice A l.length c)) (h1 : i ≤ r) (h2 : r ≤ l.length) {A' : Option Addr} (hA : i < c → A' = A.map (·.add (i * T.size t))) :
    RepD T w K (.arr t ((l.drop i).take (r - i))) (.slice A' (r - i) (c - i)) := by
  have hc : l.length ≤ c := by obtain ⟨A0, c0, _, e0, hc, _⟩ := h.arr_inv; cases e0; exact hc
  exact h.cut (rng := some (i, r - i)) ⟨by omega, rfl⟩ ⟨by omega, A', rfl, hA⟩
theorem run_slice_slice (hT : TblOk P T) {t el : Nat} (hty : T.ty t = .slice el) (hs : 0 < T.size el) {A : Option Addr} {n c l r m : Nat} {lv hv mv : Option Value}
    (hb : (Instr.sliceBounds true n c lv hv mv).run P w = .ok (l, r, m) w) :
    (Instr.sliceAt t (.slice A n c) lv hv mv).run P w = .ok (.slice (if m = l then A else A.map (·.add (l * T.size el))) (r - l) (m - l)) w := by
  have hu := hT.slice _ _ hty
  simp [Instr.sliceAt, Instr.slice, run_underlying hu, hb, run_size hT hs]
theorem addr_map_add (A : Option Addr) (hA : ∀ ad, A = some ad → ad.spot = none) (x y : Nat) : (A.map (·.add x)).map (·.add y) = A.map (·.add (x + y)) := by
  cases A with
  | none => rfl
  | some ad =>
    obtain ⟨b, o, sp⟩ := ad
    have := hA _ rfl
    simp only at this
    subst this
    simp [addr_add, Nat.add_assoc]
theorem sliceM_ok (hT : TblOk P T) (hR : Rel e s tm w) {t : Nat} {c : C T} {u : Value} (hc : RelC e s w c u) {lo hi mx : Option Int} {lv hv mv : Option Value} (hlv : OptV lo lv) (hhv : OptV hi hv) (hmv : OptV mx mv)
    {k : C T → M T α} (h : Rn Ok (sliceM t c lo hi mx k) s a s') (hsz : ∀ el, T.ty t = .slice el → 0 < T.size el) :
    ∃ c' val, Rn Ok (k c') s a s' ∧ RelC e s w c' val ∧ (Instr.sliceAt t u lv hv mv).run P w = .ok val w := by
  unfold sliceM at h
  split at h
  · rename_i st hty
    split at h
    · cases mv with
      | some v => cases hmv
      | none =>
        obtain ⟨l, r, h, h1, h2, h3, h4, h5, h6⟩ := rn_bounds h
        cases hc
        refine ⟨_, _, h, .str _, ?_⟩
        simp [Instr.sliceAt, Instr.slice, run_underlying (hT.str _ hty), run_sliceBounds hlv hhv h1 h2 h3 h4 h5 h6]
    · exact (rn_fail h).elim
  · rename_i el hty
    obtain ⟨l, r, h, h1, h2, h3, h4, h5, h6⟩ := rn_bounds h
    split at h
    · cases mv with
      | some v => cases hmv
      | none =>
        cases hc
        obtain rfl : r = 0 := by omega
        obtain rfl : l = 0 := by omega
        refine ⟨_, _, h, .nil, ?_⟩
        rw [run_slice_slice hT hty (hsz _ hty) (run_sliceBounds (isS := true) (len := 0) (cap := 0) hlv hhv h1 h2 h3 h4 h5 h6)]
        simp
    · exact (rn_fail h).elim
  · rename_i el t' l0 hty
    have hX := rn_cond h
    clear h
    obtain ⟨hte, h⟩ := hX
    have hte := nbeq hte
    subst hte
    obtain ⟨l, r, h, h1, h2, h3, h4, h5, h6⟩ := rn_bounds h
    have hc0 := hc
    obtain ⟨A, cc, vals, rfl, hcc, hA, -⟩ := RepD.arr_inv hc
    split at h
    · cases mv with
      | some v => cases hmv
      | none =>
        refine ⟨_, _, h, ?_, run_slice_slice hT hty (hsz _ hty) (run_sliceBounds (isS := true) hlv hhv h1 (by omega : r ≤ cc) h3 h4 h5 h6)⟩
        rw [cutL_eq h2 h1 h3 h4 h5 h6]
        exact RepD.sub hc0 h1 h2 fun hlt => by rw [if_neg (by omega)]
    · rename_i m hh
      have hX := rn_must h
      clear h
      obtain ⟨hm, h⟩ := hX
      cases mv with
      | none => cases hmv
      | some mv =>
        obtain ⟨k2, rfl⟩ := hmv
        cases hv with
        | none => cases hhv
        | some hv =>
          obtain ⟨k1, rfl⟩ := hhv
          have h5' := h5 _ rfl
          subst h5'
          subst hm
          refine ⟨_, _, h, ?_, run_slice_slice hT hty (hsz _ hty) (run_sliceBounds3 (isS := true) (len := l0.length) hlv h1 (by omega : r ≤ cc) h3 h4)⟩
          have hlen : (cutL l0 lo (some (r : Int))).length = r - l := by
            rw [cutL_eq h2 h1 h3 h4 h5 h6]; simp; omega
          refine ⟨if r = l then A else A.map (·.add (l * T.size t')), by rw [hlen], ?_⟩
          -- of its own capacity alone
          have hs := RepD.sub hc0 h1 h2 (A' := A.map (·.add (l * T.size t'))) (fun _ => rfl)
          rw [cutL_eq h2 h1 h3 h4 h5 h6]
          obtain ⟨A0, c0, vals0, e0, g1, g2, g3, g4⟩ := hs.arr_inv
          simp only [Value.slice.injEq] at e0
          obtain ⟨rfl, e1, rfl⟩ := e0
          have := RepD.arr (T := T) (w := w) (K := e.K) t' ((l0.drop l).take (r - l)) (if r = l then A else A.map (·.add (l * T.size t'))) (r - l) vals0 (by omega) (fun hne => ?_) (fun i j d hi hd => ?_) g4
          · rwa [← e1] at this
          · rw [if_neg (fun h0 => hne (by apply List.eq_nil_of_length_eq_zero; omega))]; exact g2 hne
          · rw [if_neg (fun h0 => by omega)]; exact g3 i j d hi hd
    · exact (rn_fail h).elim
  · rename_i el t' l0 hty
    have hX := rn_cond h
    clear h
    obtain ⟨hte, h⟩ := hX
    have hte := nbeq hte
    subst hte
    obtain ⟨l, r, h, h1, h2, h3, h4, h5, h6⟩ := rn_bounds h
    obtain ⟨A, rfl, hc0⟩ := hc
    split at h
    · cases mv with
      | some v => cases hmv
      | none =>
        refine ⟨_, _, h, ?_, run_slice_slice hT hty (hsz _ hty) (run_sliceBounds (isS := true) hlv hhv h1 h2 h3 h4 h5 h6)⟩
        rw [cutL_eq h2 h1 h3 h4 h5 h6]
        exact RepD.sub hc0 h1 h2 fun hlt => by rw [if_neg (by omega)]
    · rename_i m hh
      have hX := rn_must h
      clear h
      obtain ⟨hm, h⟩ := hX
      cases mv with
      | none => cases hmv
      | some mv =>
        obtain ⟨k2, rfl⟩ := hmv
        cases hv with
        | none => cases hhv
        | some hv =>
          obtain ⟨k1, rfl⟩ := hhv
          have h5' := h5 _ rfl
          subst h5'
          subst hm
          refine ⟨_, _, h, ?_, run_slice_slice hT hty (hsz _ hty) (run_sliceBounds3 (isS := true) (len := l0.length) hlv h1 h2 h3 h4)⟩
          have hlen : (cutL l0 lo (some (r : Int))).length = r - l := by
            rw [cutL_eq h2 h1 h3 h4 h5 h6]; simp; omega
          refine ⟨if r = l then A else A.map (·.add (l * T.size t')), by rw [hlen], ?_⟩
          have hs := RepD.sub hc0 h1 h2 (A' := A.map (·.add (l * T.size t'))) (fun _ => rfl)
          rw [cutL_eq h2 h1 h3 h4 h5 h6]
          obtain ⟨A0, c0, vals0, e0, g1, g2, g3, g4⟩ := hs.arr_inv
          simp only [Value.slice.injEq] at e0
          obtain ⟨rfl, e1, rfl⟩ := e0
          have := RepD.arr (T := T) (w := w) (K := e.K) t' ((l0.drop l).take (r - l)) (if r = l then A else A.map (·.add (l * T.size t'))) (r - l) vals0 (by omega) (fun hne => ?_) (fun i j d hi hd => ?_) g4
          · rwa [← e1] at this
          · rw [if_neg (fun h0 => hne (by apply List.eq_nil_of_length_eq_zero; omega))]; exact g2 hne
          · rw [if_neg (fun h0 => by omega)]; exact g3 i j d hi hd
    · exact (rn_fail h).elim
  · rename_i el q t0 rng ex hty
    split at h
    · cases mv with
      | some v => cases hmv
      | none =>
        obtain ⟨t', l0, hi0, hnh, h9⟩ := rn_refArr h
        clear h
        have hX := rn_cond h9
        clear h9
        obtain ⟨hte, h⟩ := hX
        have hte := nbeq hte
        subst hte
        obtain ⟨hlive, hshape, hr⟩ := hc
        obtain ⟨A, cc, hat, hsl⟩ := hr _ _ hi0
        obtain ⟨hcap, hA, hA0⟩ := ref_addr hR hi0 hat hnh
        cases rng with
        | none =>
          simp only at h
          obtain ⟨l, r, h, h1, h2, h3, h4, h5, h6⟩ := rn_bounds h
          simp only [SlOf] at hsl
          subst hsl
          refine ⟨_, _, h, ⟨hlive, ⟨_, _, _, rfl⟩, fun t2 l2 hi2 => ?_⟩, run_slice_slice hT hty (hsz _ hty) (run_sliceBounds (isS := true) hlv hhv h1 (by omega : r ≤ cc) h3 h4 h5 h6)⟩
          rw [hi0] at hi2
          simp only [Option.some.injEq, Sigma.mk.injEq] at hi2
          obtain ⟨rfl, hi2⟩ := hi2
          exact ⟨A, cc, hat, by omega, _, rfl, fun hlt => by rw [if_neg (by omega)]⟩
        | some x =>
          obtain ⟨off, len⟩ := x
          simp only at h
          obtain ⟨hle, h⟩ := rn_must h
          obtain ⟨l, r, h, h1, h2, h3, h4, h5, h6⟩ := rn_bounds h
          obtain ⟨hoc, A', rfl, hA'⟩ := hsl
          refine ⟨_, _, h, ⟨hlive, ⟨_, _, _, rfl⟩, fun t2 l2 hi2 => ?_⟩, run_slice_slice hT hty (hsz _ hty) (run_sliceBounds (isS := true) hlv hhv h1 (by omega : r ≤ cc - off) h3 h4 h5 h6)⟩
          rw [hi0] at hi2
          simp only [Option.some.injEq, Sigma.mk.injEq] at hi2
          obtain ⟨rfl, hi2⟩ := hi2
          refine ⟨A, cc, hat, by omega, _, by rw [show cc - (off + l) = cc - off - l from by omega], fun hlt => ?_⟩
          rw [if_neg (by omega), hA' (by omega)]
          cases A with
          | none => rfl
          | some ad =>
            obtain ⟨b, o, hb⟩ := hA0 (by omega)
            cases hb
            simp [addr_add, Nat.add_mul, Nat.add_assoc]
    · exact (rn_fail h).elim
  · exact (rn_fail h).elim
end
end Go.Sm
end

section
set_option linter.unusedVariables false
namespace Go.Sm
variable {T : Tbl} {α : Type}
section
variable {Ok : Nat → List (A T) → Res T → Prop} {s s' : St T} {a : α} {P : Program} {e e' : Env} {w w' W0 : World} {M0 : Gh} {tm : Array Value}

theorem indexM_ok (hT : TblOk P T) {t : Nat} {x : V T} {u : Value} (hx : RelV e s w x u) {ki : IntKind} {n : Int} {k : V T → M T α} (h : Rn Ok (indexM t x n k) s a s') (hsa : ∀ m el, T.ty t = .arr m el → 0 < T.size el) :
    ∃ v val, Rn Ok (k v) s a s' ∧ RelV e s w v val ∧ (Instr.index t u (.int ki n)).run P w = .ok val w := by
  unfold indexM at h
  split at h
  · rename_i str hty
    obtain ⟨i, rfl, hlt, h⟩ := rn_idx h
    cases hx
    refine ⟨_, _, h, .int _ _, ?_⟩
    have hg : str[i]? = some str[i] := by simp [hlt]
    have hd : i < str.data.size := hlt
    simp [Instr.index, asIntOf, run_underlying (hT.str _ hty), hg, byteAt]
    rw [Array.getElem?_eq_getElem hd]
    rfl
  · rename_i m el cs hty
    obtain ⟨i, rfl, hlt, h⟩ := rn_idx h
    obtain ⟨hl, h⟩ := rn_cond h
    obtain ⟨v, h3, h4, h5⟩ := rn_toVal h
    obtain ⟨vs, rfl, hc⟩ := hx
    have hl := nbeq hl
    have htl : (takeAt vs (i * T.size el) (T.size el)).length = T.size el := by rw [takeAt_length, hc.1, ← takeAt_length, hl]
    have hs := hsa _ _ hty
    refine ⟨v, mkVal (Go.Sm.isAgg T el) (takeAt vs (i * T.size el) (T.size el)), h3, relV_mk h5 ⟨by rw [htl, hl], fun j c u hc' hu => ?_⟩, ?_⟩
    · have hj : j < T.size el := by have := (List.getElem?_eq_some_iff.1 hc').1; omega
      rw [takeAt_get _ _ _ _ hj] at hc' hu
      exact hc.2 _ _ _ hc' hu
    · have h1 := isAgg_size (n := 0) hl h5
      simp only [Instr.index, asIntOf, Sem.run_bind, Sem.run_pure, Result.andThen_ok, run_underlying (hT.arr _ _ _ hty)]
      rw [if_pos ⟨by omega, by omega⟩]
      simp only [Sem.run_bind, run_size hT hs, Result.andThen_ok, Int.toNat_natCast, part, run_isAgg hT hs, Sem.run_ite, Sem.run_pure]
      cases hag : Go.Sm.isAgg T el with
      | true =>
        simp only [if_true, mkVal, takeAt]
        congr 2
        apply Array.toList_inj.1
        simp [List.extract_eq_drop_take]
      | false =>
        have h1 := h1 hag
        have hlt2 : 0 < (takeAt vs (i * T.size el) (T.size el)).length := by omega
        have hg := takeAt_get vs (i * T.size el) (T.size el) 0 (by omega)
        rw [List.getElem?_eq_getElem hlt2, Nat.add_zero] at hg
        simp only [mkVal, List.getD_eq_getElem?_getD]
        simp [← hg, List.getElem?_eq_getElem hlt2]
  · exact (rn_fail h).elim
theorem fieldM_ok (hT : TblOk P T) {t f : Nat} {x : V T} {u : Value} (hx : RelV e s w x u) {k : V T → M T α} (h : Rn Ok (fieldM t x f k) s a s') :
    ∃ v val, Rn Ok (k v) s a s' ∧ RelV e s w v val ∧ (Instr.field t u f).run P w = .ok val w := by
  unfold fieldM at h
  split at h
  · rename_i fs cs hty
    split at h
    · rename_i off ft hf
      obtain ⟨hl, h⟩ := rn_cond h
      obtain ⟨v, h3, h4, h5⟩ := rn_toVal h
      obtain ⟨vs, rfl, hc⟩ := hx
      have hl := nbeq hl
      obtain ⟨fields, h1, rfl, h2⟩ := hT.struct t _ hty
      rw [List.getElem?_map] at hf
      obtain ⟨fd, hfd, hfe⟩ := Option.map_eq_some_iff.1 hf
      cases hfe
      have hfd' : fields[f]? = some fd := by simpa using hfd
      have hs := (h2 fd (List.mem_of_getElem? hfd)).1
      have htl : (takeAt vs fd.offset (T.size fd.type)).length = T.size fd.type := by rw [takeAt_length, hc.1, ← takeAt_length, hl]
      refine ⟨v, mkVal (Go.Sm.isAgg T fd.type) (takeAt vs fd.offset (T.size fd.type)), h3, relV_mk h5 ⟨by rw [htl, hl], fun j c u hc' hu => ?_⟩, ?_⟩
      · have hj : j < T.size fd.type := by have := (List.getElem?_eq_some_iff.1 hc').1; omega
        rw [takeAt_get _ _ _ _ hj] at hc' hu
        exact hc.2 _ _ _ hc' hu
      · have hz := isAgg_size (n := 0) hl h5
        simp only [Instr.field, Sem.run_bind, run_underlying h1, Result.andThen_ok, hfd', asAgg, Sem.run_pure, part, run_isAgg hT hs, Sem.run_ite, run_size hT hs]
        cases hag : Go.Sm.isAgg T fd.type with
        | true =>
          simp only [if_true, mkVal, takeAt]
          congr 2
          apply Array.toList_inj.1
          simp [List.extract_eq_drop_take]
        | false =>
          have h1 := hz hag
          have hlt2 : 0 < (takeAt vs fd.offset (T.size fd.type)).length := by omega
          have hg := takeAt_get vs fd.offset (T.size fd.type) 0 (by omega)
          rw [List.getElem?_eq_getElem hlt2, Nat.add_zero] at hg
          simp only [mkVal, List.getD_eq_getElem?_getD]
          simp [← hg, List.getElem?_eq_getElem hlt2]
    · exact (rn_fail h).elim
  · exact (rn_fail h).elim

/-! ### An object is changed, made, or let go -/
/-- The surroundings of two states that differ at one object. -/
structure EnvUpd (e e' : Env) (r : Nat) : Prop where
  adr : ∀ r', r' ≠ r → e'.adr r' = e.adr r'
  cap : ∀ r', r' ≠ r → e'.cap r' = e.cap r'
  fp : ∀ r' b, r' ≠ r → (e'.fp r' b ↔ e.fp r' b)
/-- Blocks that belong to no object just now. -/
structure Loose (W0 : World) (M0 : Gh) (e : Env) (w : World) (S : Nat → Prop) : Prop where
  notK : ∀ b, S b → ¬ e.K b
  notFp : ∀ r b, S b → ¬ e.fp r b
  lt : ∀ b, S b → b < w.heap.size
  own : ∀ b, S b → b < W0.heap.size → M0 b
theorem Loose.none : Loose W0 M0 e w fun _ => False := ⟨fun _ h => h.elim, fun _ _ h => h.elim, fun _ h => h.elim, fun _ h => h.elim⟩

theorem Rel.upd (hR : Rel e s tm w) (hF : Fr W0 M0 e w) {S : Nat → Prop} (hS : Loose W0 M0 e w S) {r : Nat} {x : Root T} (hu : EnvUpd e e' r)
    (hK : ∀ b, e.K b → e'.K b) (hK' : ∀ b, e'.K b → e.K b ∨ ((e.fp r b ∨ S b) ∧ ¬ e'.fp r b))
    (hsz : w.heap.size ≤ w'.heap.size) (hw : ∀ b, b < w.heap.size → ¬ e.fp r b → ¬ S b → w'.heap[b]? = w.heap[b]?)
    (hos : w'.os = w.os) (htape : w'.tape = w.tape) (hout : Oth w w')
    (hfp : ∀ b, e'.fp r b → (e.fp r b ∨ S b ∨ w.heap.size ≤ b) ∧ b < w'.heap.size)
    (href : ∀ q rng v, q.r = r → RelRef e s w q rng v → RelRef e' (s.setO r (some x)) w' q rng v)
    (hptr : ∀ q row col v, q.r = r → RelPtr e s w q row col v → RelPtr e' (s.setO r (some x)) w' q row col v)
    (hmap : ∀ v, RelC0 e s w (.map r : C T) v → RelC0 e' (s.setO r (some x)) w' (.map r : C T) v) :
    Keeps e s w e' (s.setO r (some x)) w' ∧ Fr W0 M0 e' w' ∧ (RelO e' (s.setO r (some x)) w' r x → Rel e' (s.setO r (some x)) tm w') := by
  have hobj : ∀ r', r' ≠ r → (s.setO r (some x)).objs r' = s.objs r' := fun r' hr => by simp only [St.setO, beq_ne hr, cond_false]
  have hblkK : ∀ b, e.K b → w'.heap[b]? = w.heap[b]? := fun b hb => hw b (hR.lt b (.inl hb)) (fun h => hR.disK _ _ h hb) (fun h => hS.notK _ h hb)
  have hsame : ∀ r', r' ≠ r → SameO e s w e' (s.setO r (some x)) w' r' := fun r' hr =>
    ⟨hobj r' hr, hu.adr r' hr, hu.cap r' hr, fun b => hu.fp r' b hr, fun b hb => hw b (hR.lt b (.inr ⟨_, hb⟩)) (fun h => hr (hR.dis _ _ _ hb h)) (fun h => hS.notFp _ _ h hb)⟩
  have hk : Keeps e s w e' (s.setO r (some x)) w' := by
    refine ⟨hout, hK, hblkK, fun q rng v hq => ?_, fun q row col v hq => ?_, fun r' v hq => ?_⟩
    · by_cases h : q.r = r
      · exact href q rng v h hq
      · exact (hsame _ h).ref (hR.objs _) hq
    · by_cases h : q.r = r
      · exact hptr q row col v h hq
      · exact (hsame _ h).ptr (hR.objs _) hq
    · by_cases h : r' = r
      · subst h; exact hmap v hq
      · exact (hsame _ h).map hq
  have hfp' : ∀ r' b, e'.fp r' b → (r' = r ∧ (e.fp r b ∨ S b ∨ w.heap.size ≤ b)) ∨ (r' ≠ r ∧ e.fp r' b) := by
    intro r' b hb
    by_cases h : r' = r
    · subst h; exact .inl ⟨rfl, (hfp b hb).1⟩
    · exact .inr ⟨h, (hu.fp r' b h).1 hb⟩
  have hFr : Fr W0 M0 e' w' := by
    refine ⟨Nat.le_trans hF.size hsz, hos.trans hF.os, htape.trans hF.tape, hF.output.trans hout, fun b hb hM => ?_, fun r' b hb hlt => ?_, fun b hb hlt => ?_⟩
    · rw [hw b (Nat.lt_of_lt_of_le hb hF.size) (fun h => hM (hF.own _ _ h hb)) (fun h => hM (hS.own _ h hb))]
      exact hF.block b hb hM
    · rcases hfp' r' b hb with ⟨_, h⟩ | ⟨_, h⟩
      · rcases h with h | h | h
        · exact hF.own _ _ h hlt
        · exact hS.own _ h hlt
        · have := hF.size; omega
      · exact hF.own _ _ h hlt
    · rcases hK' b hb with h | ⟨h | h, _⟩
      · exact hF.know b h hlt
      · exact .inr (hF.own _ _ h hlt)
      · exact .inr (hS.own _ h hlt)
  refine ⟨hk, hFr, fun hx => ⟨fun t => hk.v (hR.regs t), fun r' o ho => ?_, fun r1 r2 b h1 h2 => ?_, fun r1 b h1 h2 => ?_, fun b hb => ?_⟩⟩
  · by_cases h : r' = r
    · subst h
      simp only [St.setO, beq_self, cond_true, Option.some.injEq] at ho
      subst ho
      exact hx
    · rw [hobj r' h] at ho
      exact (hsame _ h).relO hk (hR.objs _ _ ho)
  · rcases hfp' r1 b h1 with ⟨e1, g1⟩ | ⟨e1, g1⟩ <;> rcases hfp' r2 b h2 with ⟨e2, g2⟩ | ⟨e2, g2⟩
    · rw [e1, e2]
    · rcases g1 with g | g | g
      · exact absurd (hR.dis _ _ _ g2 g) e2
      · exact absurd g2 (hS.notFp _ _ g)
      · have := hR.lt b (.inr ⟨_, g2⟩); omega
    · rcases g2 with g | g | g
      · exact absurd (hR.dis _ _ _ g1 g) e1
      · exact absurd g1 (hS.notFp _ _ g)
      · have := hR.lt b (.inr ⟨_, g1⟩); omega
    · exact hR.dis _ _ _ g1 g2
  · rcases hK' b h2 with hK0 | ⟨hK1, hK2⟩
    · rcases hfp' r1 b h1 with ⟨e1, g1⟩ | ⟨e1, g1⟩
      · rcases g1 with g | g | g
        · exact hR.disK _ _ g hK0
        · exact hS.notK _ g hK0
        · have := hR.lt b (.inl hK0); omega
      · exact hR.disK _ _ g1 hK0
    · rcases hfp' r1 b h1 with ⟨e1, g1⟩ | ⟨e1, g1⟩
      · subst e1; exact hK2 h1
      · rcases hK1 with g | g
        · exact e1 (hR.dis _ _ _ g1 g)
        · exact hS.notFp _ _ g g1
  · rcases hb with hb | ⟨r1, hb⟩
    · rcases hK' b hb with h | ⟨h, _⟩
      · exact Nat.lt_of_lt_of_le (hR.lt b (.inl h)) hsz
      · rcases h with h | h
        · exact Nat.lt_of_lt_of_le (hR.lt b (.inr ⟨_, h⟩)) hsz
        · exact Nat.lt_of_lt_of_le (hS.lt b h) hsz
    · rcases hfp' r1 b hb with ⟨e1, _⟩ | ⟨e1, g1⟩
      · subst e1; exact (hfp b hb).2
      · exact Nat.lt_of_lt_of_le (hR.lt b (.inr ⟨_, g1⟩)) hsz
end
end Go.Sm
end
