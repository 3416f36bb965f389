/-
  Part 1 of what the laws of this set are proved with: an engine that reads code off into pure functions, and what those functions compute. No condition.
-/
import Derived.OrdersIn
import Derived.TacticsIn
import Derived.RangeFuncIn
import Derived.Laws.OwnMore
import Derived.KernelRfl
import Derived.Laws.CopyOwn
import Derived.Laws.StructEq
import Derived.Laws.BytesString
import Derived.Laws.AppendOwn
import Derived.Lib.AppendZeros
import Derived.RangeFuncRecord
import Derived.Scope
set_option linter.unusedVariables false
section
namespace Go.Sat
open Go

/-! ### fences: everything allowed -/
def FW (r : Option Nat) : Fence := { fn := fun _ => True, depth := none, alive := false, round := r }
theorem FW_none : FW none = Fence.wide := rfl
theorem callsIn_FW {n : Nat} {P : Program} {f : FuncId} {args : Array Value} {w : World} {R : Ending → World → Prop} (r : Option Nat) :
    CallsIn (FW r) n P f args w R ↔ Calls P f args w R :=
  ⟨fun h => h.calls fun _ _ h => by simp [FW] at h, fun h => (callsIn_wide (n := n)).2 h⟩

/-! ### sparse frames -/
theorem nbeq {a b : Nat} (h : a ≠ b) : Nat.beq a b = false := by
  cases h' : Nat.beq a b with
  | false => rfl
  | true => exact absurd (Nat.eq_of_beq_eq_true h') h

abbrev Env := List (Nat × Value)
namespace Env
def get : Env → Nat → Value
  | [], _ => undef
  | (k, v) :: r, t => bif Nat.beq k t then v else get r t
def has : Env → Nat → Bool
  | [], _ => false
  | (k, _) :: r, t => bif Nat.beq k t then true else has r t
def without (d : Nat) : Env → Env
  | [] => []
  | (k, v) :: r => bif Nat.beq k d then without d r else (k, v) :: without d r
def put (E : Env) : Option Tmp → Value → Env
  | none, _ => E
  | some d, v => (d, v) :: E.without d
def drop (E : Env) : Option Tmp → Env
  | none => E
  | some d => E.without d
def pick (ks : List Nat) (E : Env) : Env := ks.map fun k => (k, E.get k)
def ev (E : Env) : Operand → Value
  | .tmp t => E.get t
  | .const v => v
  | .global g => .pointer (some ⟨g, 0, none⟩)
  | .func f => .func (.func f) #[] #[]
def covers (E : Env) : Operand → Bool
  | .tmp t => E.has t
  | _ => true

theorem has_without (E : Env) (d t : Nat) : (E.without d).has t = (E.has t && !Nat.beq d t) := by
  induction E with
  | nil => simp [without, has]
  | cons x r ih =>
    obtain ⟨k, v⟩ := x
    by_cases h1 : k = d
    · subst h1
      by_cases h2 : k = t
      · subst h2; simp [without, has, ih]
      · have : Nat.beq k t = false := nbeq h2
        simp [without, has, ih, this]
    · have hd : Nat.beq k d = false := nbeq h1
      by_cases h2 : k = t
      · subst h2
        have : Nat.beq d k = false := nbeq (Ne.symm h1)
        simp [without, has, hd, this]
      · have : Nat.beq k t = false := nbeq h2
        simp [without, has, hd, ih, this]

theorem get_without (E : Env) (d t : Nat) (h : d ≠ t) : (E.without d).get t = E.get t := by
  induction E with
  | nil => rfl
  | cons x r ih =>
    obtain ⟨k, v⟩ := x
    by_cases h1 : k = d
    · subst h1
      have : Nat.beq k t = false := nbeq h
      simp [without, get, ih, this]
    · have hd : Nat.beq k d = false := nbeq h1
      simp [without, get, hd, ih]

theorem has_put_same (E : Env) (d : Nat) (v : Value) : (E.put (some d) v).has d = true := by simp [put, has]
theorem get_put_same (E : Env) (d : Nat) (v : Value) : (E.put (some d) v).get d = v := by simp [put, get]
theorem has_put_ne (E : Env) (d t : Nat) (v : Value) (h : d ≠ t) : (E.put (some d) v).has t = E.has t := by
  have : Nat.beq d t = false := nbeq h
  simp [put, has, has_without, this]
theorem get_put_ne (E : Env) (d t : Nat) (v : Value) (h : d ≠ t) : (E.put (some d) v).get t = E.get t := by
  have : Nat.beq d t = false := nbeq h
  simp [put, get, get_without _ _ _ h, this]
theorem has_pick (ks : List Nat) (E : Env) (t : Nat) : (E.pick ks).has t = ks.contains t := by
  induction ks with
  | nil => rfl
  | cons k ks ih =>
    by_cases h : k = t
    · subst h; simp [pick, has]
    · have h1 : Nat.beq k t = false := nbeq h
      have h2 : t ≠ k := Ne.symm h
      have ih' : has (List.map (fun k => (k, E.get k)) ks) t = ks.contains t := ih
      simp [pick, has, h1, ih', h2]
theorem get_pick (ks : List Nat) (E : Env) (t : Nat) (h : ks.contains t = true) : (E.pick ks).get t = E.get t := by
  induction ks with
  | nil => simp at h
  | cons k ks ih =>
    by_cases h1 : k = t
    · subst h1; simp [pick, get]
    · have h2 : Nat.beq k t = false := nbeq h1
      have h3 : (t == k) = false := by simpa using Ne.symm h1
      rw [List.contains_cons, h3, Bool.false_or] at h
      have ih' : get (List.map (fun k => (k, E.get k)) ks) t = E.get t := ih h
      simp [pick, get, h2, ih']
end Env

structure At (n : Nat) (ds : List Deferred) (E : Env) (a : Act) : Prop where
  size : a.tmps.size = n
  defers : a.defers = ds
  slot : ∀ t, E.has t = true → a.tmps[t]? = some (E.get t)

theorem At.eval {n : Nat} {ds : List Deferred} {E : Env} {a : Act} (h : At n ds E a) {x : Operand} (hx : E.covers x = true) : a.eval x = E.ev x := by
  cases x with
  | tmp t =>
    have := h.slot t hx
    simp [Act.eval, Env.ev, Array.getD_eq_getD_getElem?, this]
  | const v => rfl
  | global g => rfl
  | func f => rfl

theorem At.put {n : Nat} {ds : List Deferred} {E : Env} {a : Act} (h : At n ds E a) (dst : Option Tmp) (v : Value) (hd : ∀ d, dst = some d → d < n) :
    At n ds (E.put dst v) (a.put dst v) := by
  cases dst with
  | none => exact h
  | some d =>
    have hdn := hd d rfl
    refine ⟨by simp [Act.put, h.size], by simp [Act.put, h.defers], fun t ht => ?_⟩
    by_cases he : d = t
    · subst he
      simp [Act.put, Env.get_put_same, h.size, hdn]
    · rw [Env.get_put_ne _ _ _ _ he]
      rw [Env.has_put_ne _ _ _ _ he] at ht
      simp only [Act.put]
      rw [Array.getElem?_setIfInBounds_ne he]
      exact h.slot t ht

theorem At.pick {n : Nat} {ds : List Deferred} {E : Env} {a : Act} (h : At n ds E a) (ks : List Nat) (hk : ks.all E.has = true) : At n ds (E.pick ks) a :=
  ⟨h.size, h.defers, fun t ht => by
    rw [Env.has_pick] at ht
    rw [Env.get_pick _ _ _ ht]
    exact h.slot t (List.all_eq_true.1 hk t (by simpa using ht))⟩

/-- 'E'' is what E says of the slots ks'. -/
def Env.to (ks : List Nat) (E : Env) : Option Env := bif ks.all E.has then some (E.pick ks) else none
theorem At.to {n : Nat} {ds : List Deferred} {E E' : Env} {a : Act} (h : At n ds E a) (ks : List Nat) (hk : E.to ks = some E') : At n ds E' a := by
  unfold Env.to at hk
  cases hall : ks.all E.has with
  | false => simp [hall] at hk
  | true => simp [hall] at hk; subst hk; exact h.pick ks hall

/-- one slot more is known -/
theorem At.add {n : Nat} {ds : List Deferred} {E : Env} {a : Act} (h : At n ds E a) {t : Nat} {v : Value} (hv : a.tmps[t]? = some v) : At n ds ((t, v) :: E) a :=
  ⟨h.size, h.defers, fun u hu => by
    by_cases he : t = u
    · subst he; simp [Env.get, hv]
    · have h1 : Nat.beq t u = false := nbeq he
      simp [Env.has, Env.get, h1] at hu ⊢
      exact h.slot u hu⟩

/-! ### steps that look at no memory -/
def pureRun {α : Type} (P : Program) : Sem α → Option α
  | .pure a => some a
  | .program k => pureRun P (k P)
  | .mark _ k => pureRun P k
  | _ => none

theorem pureRun_run {α : Type} {P : Program} {e : Sem α} {x : α} (h : pureRun P e = some x) (w : World) : e.run P w = .ok x w := by
  induction e with
  | pure a => simp [pureRun] at h; simp [Sem.run, h]
  | program k ih => simp only [pureRun] at h; simp only [Sem.run]; exact ih P h
  | mark m k ih => simp only [pureRun] at h; simp only [Sem.run]; exact ih h
  | _ => simp [pureRun] at h

/-- does the guard let the operation run? none: not known. -/
def wantedE (ops : Array Oper) (E : Env) (o : Oper) : Option Bool :=
  match o.guard with
  | none => some true
  | some (j, want) =>
    match (ops[j]?).bind (·.dst) with
    | none => none
    | some d => bif E.has d then (match E.get d with | .bool b => some (b == want) | _ => none) else none

theorem wantedE_spec {ops : Array Oper} {n : Nat} {ds : List Deferred} {E : Env} {a : Act} {o : Oper} {b : Bool} (h : At n ds E a) (hw : wantedE ops E o = some b) :
    Region.wanted o (yielded ops a.tmps) = b := by
  unfold wantedE at hw
  unfold Region.wanted
  cases hg : o.guard with
  | none => rw [hg] at hw; simpa using hw
  | some jw =>
    obtain ⟨j, want⟩ := jw
    rw [hg] at hw
    simp only at hw ⊢
    cases hd : (ops[j]?).bind (·.dst) with
    | none => rw [hd] at hw; cases hw
    | some d =>
      rw [hd] at hw
      simp only at hw
      cases hh : E.has d with
      | false => rw [hh] at hw; cases hw
      | true =>
        rw [hh] at hw
        have hs := h.slot d hh
        simp only [cond_true] at hw
        unfold yielded
        rw [hd, Option.bind_some, hs]
        cases hv : E.get d with
        | bool b' => rw [hv] at hw; simp only [Option.some.injEq] at hw; subst hw; simp
        | _ => rw [hv] at hw; cases hw

def dstOk (n : Nat) : Option Tmp → Bool
  | none => true
  | some d => Nat.blt d n
theorem dstOk_spec {n : Nat} {dst : Option Tmp} (h : dstOk n dst = true) : ∀ d, dst = some d → d < n := by
  rintro d rfl
  simpa [dstOk, Nat.blt_eq] using h

/-- no select, no defer, all operands known, the slot is there -/
def opFine (n : Nat) (E : Env) (o : Oper) : Bool :=
  (match o.op with | .select _ _ => false | .defer _ => false | _ => true) && o.op.operands.all E.covers && dstOk n o.dst

theorem opFine_spec {n : Nat} {ds : List Deferred} {E : Env} {a : Act} {o : Oper} {r : Option Nat} (h : At n ds E a) (hf : opFine n E o = true) :
    o.semAt r a.eval = execOp E.ev o ∧ (∀ d, o.dst = some d → d < n) := by
  unfold opFine at hf
  simp only [Bool.and_eq_true] at hf
  obtain ⟨⟨h1, h2⟩, h3⟩ := hf
  refine ⟨?_, dstOk_spec h3⟩
  rw [Oper.semAt_eq _ _ _ (fun c hc => by rw [hc] at h1; cases h1)]
  exact execOp_congr o (fun cs b hc => by rw [hc] at h1; cases h1) fun x hx => h.eval (Array.all_eq_true'.1 h2 x hx)

section
variable {r : Option Nat} {P : Program} {n : Nat} {ds : List Deferred} {ops : Array Oper} {Q : Exit → Act → World → Prop} {w : World}

/-- The walk from operation k of a region on. -/
def WR (r : Option Nat) (P : Program) (n : Nat) (ds : List Deferred) (ops : Array Oper) (k : Nat) (E : Env) (Q : Exit → Act → World → Prop) (w : World) : Prop :=
  ∀ a, At n ds E a → wpListIn (FW r) 0 P ops Q (ops.toList.drop k) a w

/-- The walk of a piece of code. -/
def W (r : Option Nat) (P : Program) (n : Nat) (ds : List Deferred) (c : Code) (E : Env) (Q : Exit → Act → World → Prop) (w : World) : Prop :=
  ∀ a, At n ds E a → c.wpIn (FW r) 0 P Q a w

theorem drop_cons {k : Nat} {o : Oper} (h : ops[k]? = some o) : ops.toList.drop k = o :: ops.toList.drop (k + 1) := by
  obtain ⟨hk, he⟩ := Array.getElem?_eq_some_iff.1 h
  rw [List.drop_eq_getElem_cons (by simpa using hk)]
  simp [he]

theorem about_FW {o : Oper} {a : Act} {w : World} : ∀ f, o.about P w a.eval = some f → (FW r).fn f := fun _ _ => trivial

theorem WR.op {k : Nat} {o : Oper} {E : Env} {w' : World} {v : Value} (ho : ops[k]? = some o) (hw : wantedE ops E o = some true) (hf : opFine n E o = true)
    (hrun : (execOp E.ev o).run P w = .ok (.value v) w') (next : WR r P n ds ops (k + 1) (E.put o.dst v) Q w') : WR r P n ds ops k E Q w := by
  intro a ha
  rw [drop_cons ho]
  obtain ⟨h1, h2⟩ := opFine_spec (r := r) ha hf
  unfold wpListIn
  rw [if_pos (wantedE_spec ha hw)]
  refine ⟨about_FW, ?_⟩
  rw [show (FW r).round = r from rfl, h1, hrun]
  exact next _ (ha.put _ _ h2)

theorem WR.opSkip {k : Nat} {o : Oper} {E : Env} {w' : World} (ho : ops[k]? = some o) (hw : wantedE ops E o = some true) (hf : opFine n E o = true)
    (hrun : (execOp E.ev o).run P w = .ok .skip w') (next : WR r P n ds ops (k + 1) (E.put o.dst undef) Q w') : WR r P n ds ops k E Q w := by
  intro a ha
  rw [drop_cons ho]
  obtain ⟨h1, h2⟩ := opFine_spec (r := r) ha hf
  unfold wpListIn
  rw [if_pos (wantedE_spec ha hw)]
  refine ⟨about_FW, ?_⟩
  rw [show (FW r).round = r from rfl, h1, hrun]
  exact next _ (ha.put _ _ h2)

/-- an operation whose guard says no -/
theorem WR.pass {k : Nat} {o : Oper} {E : Env} (ho : ops[k]? = some o) (hw : wantedE ops E o = some false) (hd : dstOk n o.dst = true)
    (next : WR r P n ds ops (k + 1) (E.put o.dst undef) Q w) : WR r P n ds ops k E Q w := by
  intro a ha
  rw [drop_cons ho]
  unfold wpListIn
  rw [if_neg (by rw [wantedE_spec ha hw]; simp)]
  exact ⟨about_FW, next _ (ha.put _ _ (dstOk_spec hd))⟩

/-- a call of a Go function, by its contract -/
theorem WR.callE {k : Nat} {o : Oper} {E : Env} {f : FuncId} {args : Array Value} {R : Ending → World → Prop} (ho : ops[k]? = some o) (hw : wantedE ops E o = some true) (hf : opFine n E o = true)
    (hrun : pureRun P (execOp E.ev o) = some (.enter f args)) (hc : Calls P f args w R)
    (next : ∀ v w', R (.returned v) w' → WR r P n ds ops (k + 1) (E.put o.dst v) Q w')
    (hp : ∀ c a w', At n ds E a → R (.panicked c) w' → Q (.panic c) a w') (hg : ∀ w', ¬ R .outgrown w') : WR r P n ds ops k E Q w := by
  intro a ha
  rw [drop_cons ho]
  obtain ⟨h1, h2⟩ := opFine_spec (r := r) ha hf
  unfold wpListIn
  rw [if_pos (wantedE_spec ha hw)]
  refine ⟨about_FW, ?_⟩
  rw [show (FW r).round = r from rfl, h1, pureRun_run hrun w]
  refine ⟨fun h => by simp [FW] at h, (callsIn_FW r).2 (hc.mono fun e w' he => ?_)⟩
  cases e with
  | returned v => exact next v w' he _ (ha.put _ _ h2)
  | panicked c => exact hp c a w' ha he
  | outgrown => exact (hg w' he).elim

/-- contracts that return -/
def Ret (P : Program) (f : FuncId) (args : Array Value) (w : World) (R : Value → World → Prop) : Prop :=
  Calls P f args w fun e w' => ∃ v, e = .returned v ∧ R v w'

theorem Ret.mono {f : FuncId} {args : Array Value} {w : World} {R R' : Value → World → Prop} (h : Ret P f args w R) (hr : ∀ v w', R v w' → R' v w') : Ret P f args w R' :=
  Calls.mono h fun _ _ ⟨v, e, h⟩ => ⟨v, e, hr _ _ h⟩

theorem WR.call {k : Nat} {o : Oper} {E : Env} {f : FuncId} {args : Array Value} {R : Value → World → Prop} (hc : Ret P f args w R) (ho : ops[k]? = some o) (hw : wantedE ops E o = some true) (hf : opFine n E o = true)
    (hrun : pureRun P (execOp E.ev o) = some (.enter f args))
    (next : ∀ v w', R v w' → WR r P n ds ops (k + 1) (E.put o.dst v) Q w') : WR r P n ds ops k E Q w :=
  WR.callE ho hw hf hrun hc (fun v w' ⟨_, e, h⟩ => by cases e; exact next _ _ h) (fun c a w' _ ⟨_, e, _⟩ => by cases e) (fun w' ⟨_, e, _⟩ => by cases e)

theorem WR.fin {k : Nat} {E : Env} (hk : Nat.ble ops.size k = true) (h : ∀ a, At n ds E a → Q .normal a w) : WR r P n ds ops k E Q w := by
  intro a ha
  rw [List.drop_eq_nil_of_le (by simpa using hk)]
  exact h a ha

theorem WR.to {k : Nat} {E E' : Env} (ks : List Nat) (hk : E.to ks = some E') (h : WR r P n ds ops k E' Q w) : WR r P n ds ops k E Q w :=
  fun a ha => h a (ha.to ks hk)
theorem WR.cast {k : Nat} {E E' : Env} (he : E = E') (h : WR r P n ds ops k E' Q w) : WR r P n ds ops k E Q w := he ▸ h

theorem W.to {c : Code} {E E' : Env} (ks : List Nat) (hk : E.to ks = some E') (h : W r P n ds c E' Q w) : W r P n ds c E Q w := fun a ha => h a (ha.to ks hk)
theorem W.cast {c : Code} {E E' : Env} (he : E = E') (h : W r P n ds c E' Q w) : W r P n ds c E Q w := he ▸ h

/-! ### reckoning with conditions -/
/-- an int operation whose result fits -/
abbrev fits64 (x : Int) : Prop := -9223372036854775808 ≤ x ∧ x ≤ 9223372036854775807

/-- an address further on, written out where it can be -/
def addM : Addr → Nat → Addr
  | ⟨b, o, none⟩, n => ⟨b, o + n, none⟩
  | a, n => a.add n
theorem addM_eq (a : Addr) (n : Nat) : addM a n = a.add n := by
  unfold addM Addr.add
  split
  · split <;> simp_all
  · rfl
/-- shifts by a count that is not below 0 -/
def sShl (k : IntKind) (x y : Int) : Int := k.wrap (x * 2 ^ min y.toNat k.bits)
def sShr (k : IntKind) (x y : Int) : Int := x.fdiv (2 ^ min y.toNat k.bits)
/-- where a slice of a slice begins -/
def cutA (a : Option Addr) (l m size : Nat) : Option Addr := if m = l then a else a.map (·.add (l * size))
/-- a bound of a slice, if it is given -/
def loA (lo : Option Operand) (a : Option Addr) (l m size : Nat) : Option Addr := match lo with | none => a | some _ => cutA a l m size
def bnd (E : Env) (x : Option Operand) (d : Nat) : Option (Nat × Prop) :=
  match x with
  | none => some (d, True)
  | some x => match E.ev x with
    | .int _ i => some (i.toNat, 0 ≤ i)
    | _ => none

/-- A value and the condition under which the operation yields it, in whatever world. -/
def chkOp (P : Program) (E : Env) (o : Oper) : Option (Value × Prop) :=
  match o.op with
  | .binOp .add _ x y _ =>
    (match E.ev x, E.ev y with
     | .int .i64 a, .int .i64 b => some (.int .i64 (a + b), fits64 (a + b))
     | _, _ => other)
  | .binOp .sub _ x y _ =>
    (match E.ev x, E.ev y with
     | .int .i64 a, .int .i64 b => some (.int .i64 (a - b), fits64 (a - b))
     | _, _ => other)
  | .binOp .mul _ x y _ =>
    (match E.ev x, E.ev y with
     | .int .i64 a, .int .i64 b => some (.int .i64 (a * b), fits64 (a * b))
     | _, _ => other)
  | .binOp .shl _ x y _ =>
    (match E.ev x, E.ev y with
     | .int k a, .int _ b => some (.int k (sShl k a b), 0 ≤ b)
     | _, _ => other)
  | .binOp .shr _ x y _ =>
    (match E.ev x, E.ev y with
     | .int k a, .int _ b => some (.int k (sShr k a b), 0 ≤ b)
     | _, _ => other)
  | .binOp .quo _ x y _ =>
    (match E.ev x, E.ev y with
     | .int .i64 a, .int .i64 b => some (.int .i64 (a.tdiv b), b ≠ 0 ∧ fits64 (a.tdiv b))
     | _, _ => other)
  | .binOp .rem _ x y _ =>
    (match E.ev x, E.ev y with
     | .int .i64 a, .int .i64 b => some (.int .i64 (a.tmod b), b ≠ 0)
     | _, _ => other)
  | .indexAddr t x i =>
    (match P.underlying t, E.ev x, E.ev i with
     | some (.slice e), .slice (some ad) len _, .int _ i => some (.pointer (some (addM ad (i.toNat * P.cellsOf e))), 0 ≤ i ∧ i < len ∧ (P.info? e).isSome = true)
     | some (.array len e), .pointer (some ad), .int _ i => some (.pointer (some (addM ad (i.toNat * P.cellsOf e))), 0 ≤ i ∧ i < len ∧ (P.info? e).isSome = true)
     | _, _, _ => none)
  | .convert src dst x =>
    (match P.underlying dst, E.ev x with
     | some (.int .i64), .int _ a => some (.int .i64 a, fits64 a ∧ (P.underlying src).isSome = true)
     | _, _ => other)
  | .slice t x lo hi none =>
    (match P.underlying t, E.ev x with
     | some (.slice e), .slice a len cap =>
       (match bnd E lo 0, bnd E hi len with
        | some (l, cl), some (h, ch) => some (.slice (loA lo a l cap (P.cellsOf e)) (h - l) (cap - l), cl ∧ l ≤ h ∧ ch ∧ h ≤ cap ∧ (P.info? e).isSome = true)
        | _, _ => none)
     | some (.array m e), .pointer (some a) =>
       (match bnd E lo 0, bnd E hi m with
        | some (l, cl), some (h, ch) => some (.slice (loA lo (some a) l m (P.cellsOf e)) (h - l) (m - l), cl ∧ l ≤ h ∧ ch ∧ h ≤ m ∧ (P.info? e).isSome = true)
        | _, _ => none)
     | _, _ => none)
  | _ => other
  where other : Option (Value × Prop) := match pureRun P (execOp E.ev o) with | some (.value v) => some (v, True) | _ => none

theorem wrap_fits {x : Int} (h : fits64 x) : IntKind.i64.wrap x = x := by
  obtain ⟨h1, h2⟩ := h
  have e1 : (2 : Int) ^ IntKind.i64.bits = 18446744073709551616 := by decide
  have e2 : (2 : Int) ^ (IntKind.i64.bits - 1) = 9223372036854775808 := by decide
  have e3 : IntKind.i64.signed = true := rfl
  simp only [IntKind.wrap, e1, e2, e3, Bool.true_and, decide_eq_true_eq]
  split <;> omega

theorem chkOther_spec {E : Env} {o : Oper} {v : Value} {C : Prop} (h : chkOp.other P E o = some (v, C)) (w : World) : (execOp E.ev o).run P w = .ok (.value v) w := by
  unfold chkOp.other at h
  split at h
  · rename_i x hx
    simp only [Option.some.injEq, Prod.mk.injEq] at h
    obtain ⟨rfl, _⟩ := h
    exact pureRun_run hx w
  · cases h

theorem cellsOf_info {e : TypeId} {i : TypeInfo} (h : P.info? e = some i) : P.cellsOf e = i.size := by simp [Program.cellsOf, h]

theorem indexAt_slice {t e : TypeId} {ad : Addr} {len cap : Nat} {k : IntKind} {i : Int} (hu : P.underlying t = some (.slice e)) (h0 : 0 ≤ i) (h1 : i < len) (hi : (P.info? e).isSome = true) (w : World) :
    (Instr.indexAt t (.slice (some ad) len cap) (.int k i)).run P w = .ok (.pointer (some (ad.add (i.toNat * P.cellsOf e)))) w := by
  obtain ⟨inf, hinf⟩ := Option.isSome_iff_exists.1 hi
  simp [Instr.indexAt, asIntOf, underlying, program, Sem.run, hu, h0, h1, sizeOf, typeInfo, hinf, cellsOf_info hinf, bind, Sem.bind, pure]

theorem indexAt_array {t e : TypeId} {ad : Addr} {len : Nat} {k : IntKind} {i : Int} (hu : P.underlying t = some (.array len e)) (h0 : 0 ≤ i) (h1 : i < len) (hi : (P.info? e).isSome = true) (w : World) :
    (Instr.indexAt t (.pointer (some ad)) (.int k i)).run P w = .ok (.pointer (some (ad.add (i.toNat * P.cellsOf e)))) w := by
  obtain ⟨inf, hinf⟩ := Option.isSome_iff_exists.1 hi
  simp [Instr.indexAt, asIntOf, underlying, program, Sem.run, hu, h0, h1, sizeOf, typeInfo, hinf, cellsOf_info hinf, bind, Sem.bind, pure, Instr.sureAddr]

theorem run_sliceBound {x : Value} {k : IntKind} {i : Int} (hx : x = .int k i) {y : Nat} {c : BoundsCode} (h0 : 0 ≤ i) (h1 : i.toNat ≤ y) (w : World) :
    (Instr.sliceBound x y c).run P w = .ok i.toNat w := by
  subst hx
  have : 0 ≤ i ∧ i ≤ (y : Int) := ⟨h0, by omega⟩
  simp [Instr.sliceBound, asIntOf, pure, bind, Sem.bind, this]

theorem run_sliceBounds {E : Env} {lo hi : Option Operand} {len cap l h : Nat} {cl ch : Prop} {b : Bool} (hl : bnd E lo 0 = some (l, cl)) (hh : bnd E hi len = some (h, ch))
    (pl : cl) (ph : ch) (h1 : l ≤ h) (h2 : h ≤ cap) (w : World) :
    (Instr.sliceBounds b len cap (lo.map E.ev) (hi.map E.ev) none).run P w = .ok (l, h, cap) w := by
  have spec : ∀ {x : Option Operand} {d m : Nat} {p : Prop}, bnd E x d = some (m, p) → p → (x = none ∧ m = d) ∨ ∃ y k i, x = some y ∧ E.ev y = .int k i ∧ m = i.toNat ∧ 0 ≤ i := by
    intro x d m p hb hp
    cases x with
    | none => simp only [bnd, Option.some.injEq, Prod.mk.injEq] at hb; exact .inl ⟨rfl, hb.1.symm⟩
    | some y =>
      simp only [bnd] at hb
      split at hb
      · rename_i k i hy
        simp only [Option.some.injEq, Prod.mk.injEq] at hb
        obtain ⟨rfl, rfl⟩ := hb
        exact .inr ⟨y, k, i, rfl, hy, rfl, hp⟩
      · cases hb
  unfold Instr.sliceBounds
  rcases spec hl pl with ⟨rfl, rfl⟩ | ⟨y, k, i, rfl, hy, rfl, h0⟩ <;> rcases spec hh ph with ⟨rfl, rfl⟩ | ⟨y', k', i', rfl, hy', rfl, h0'⟩ <;>
    simp only [Option.map_none, Option.map_some, Sem.run_bind, Sem.run_pure, Result.andThen_ok] <;>
    first
      | rfl
      | (rw [run_sliceBound hy h0 h1]; rfl)
      | (rw [run_sliceBound hy' h0' h2]; rfl)
      | (rw [run_sliceBound hy' h0' h2]; simp only [Result.andThen_ok]; rw [run_sliceBound hy h0 h1]; rfl)

theorem loA_eq {E : Env} {lo : Option Operand} {a : Option Addr} {l m size : Nat} {cl : Prop} (hl : bnd E lo 0 = some (l, cl)) : loA lo a l m size = if m = l then a else a.map (·.add (l * size)) := by
  unfold loA
  cases lo with
  | none =>
    simp only [bnd, Option.some.injEq, Prod.mk.injEq] at hl
    obtain ⟨rfl, _⟩ := hl
    cases a <;> simp [Addr.add]
  | some x => rfl

theorem chkOp_spec {E : Env} {o : Oper} {v : Value} {C : Prop} (h : chkOp P E o = some (v, C)) (hC : C) (w : World) : (execOp E.ev o).run P w = .ok (.value v) w := by
  have fin : ∀ {e : Sem Value} {x : Value}, e.run P w = .ok x w → (do pure (Next.value (← e)) : Sem Next).run P w = .ok (.value x) w := by
    intro e x he
    simp [he]
  unfold chkOp at h
  split at h
  · rename_i T x y ho
    split at h
    · rename_i a b ha hb
      simp only [Option.some.injEq, Prod.mk.injEq] at h
      obtain ⟨rfl, rfl⟩ := h
      simp [execOp, ho, eqGuard, binOp, ha, hb, Op.intArith, wrap_fits hC, pure, bind, Sem.bind]
    · exact chkOther_spec h w
  · rename_i T x y ho
    split at h
    · rename_i a b ha hb
      simp only [Option.some.injEq, Prod.mk.injEq] at h
      obtain ⟨rfl, rfl⟩ := h
      simp [execOp, ho, eqGuard, binOp, ha, hb, Op.intArith, wrap_fits hC, pure, bind, Sem.bind]
    · exact chkOther_spec h w
  · rename_i T x y ho
    split at h
    · rename_i a b ha hb
      simp only [Option.some.injEq, Prod.mk.injEq] at h
      obtain ⟨rfl, rfl⟩ := h
      simp [execOp, ho, eqGuard, binOp, ha, hb, Op.intArith, wrap_fits hC, pure, bind, Sem.bind]
    · exact chkOther_spec h w
  · rename_i T x y ho
    split at h
    · rename_i k a k' b ha hb
      simp only [Option.some.injEq, Prod.mk.injEq] at h
      obtain ⟨rfl, rfl⟩ := h
      have hn : ¬ b < 0 := by omega
      simp [execOp, ho, eqGuard, binOp, ha, hb, Op.shift, hn, sShl, pure, bind, Sem.bind]
    · exact chkOther_spec h w
  · rename_i T x y ho
    split at h
    · rename_i k a k' b ha hb
      simp only [Option.some.injEq, Prod.mk.injEq] at h
      obtain ⟨rfl, rfl⟩ := h
      have hn : ¬ b < 0 := by omega
      simp [execOp, ho, eqGuard, binOp, ha, hb, Op.shift, hn, sShr, pure, bind, Sem.bind]
    · exact chkOther_spec h w
  · rename_i T x y ho
    split at h
    · rename_i a b ha hb
      simp only [Option.some.injEq, Prod.mk.injEq] at h
      obtain ⟨rfl, rfl⟩ := h
      simp [execOp, ho, eqGuard, binOp, ha, hb, Op.intDiv, hC.1, wrap_fits hC.2, pure, bind, Sem.bind]
    · exact chkOther_spec h w
  · rename_i T x y ho
    split at h
    · rename_i a b ha hb
      simp only [Option.some.injEq, Prod.mk.injEq] at h
      obtain ⟨rfl, rfl⟩ := h
      simp [execOp, ho, eqGuard, binOp, ha, hb, Op.intDiv, hC, pure, bind, Sem.bind]
    · exact chkOther_spec h w
  · rename_i t x i ho
    split at h
    · rename_i e ad len cap k j hu hx hi
      simp only [Option.some.injEq, Prod.mk.injEq] at h
      obtain ⟨rfl, rfl⟩ := h
      have := indexAt_slice (k := k) (cap := cap) (ad := ad) hu hC.1 hC.2.1 hC.2.2 w
      simp only [execOp, ho, hx, hi, addM_eq]
      exact fin this
    · rename_i len e ad k j hu hx hi
      simp only [Option.some.injEq, Prod.mk.injEq] at h
      obtain ⟨rfl, rfl⟩ := h
      have := indexAt_array (k := k) (ad := ad) hu hC.1 hC.2.1 hC.2.2 w
      simp only [execOp, ho, hx, hi, addM_eq]
      exact fin this
    · cases h
  · rename_i src dst x ho
    split at h
    · rename_i k a hu hx
      simp only [Option.some.injEq, Prod.mk.injEq] at h
      obtain ⟨rfl, rfl⟩ := h
      obtain ⟨u, hs⟩ := Option.isSome_iff_exists.1 hC.2
      simp only [execOp, ho, hx]
      refine fin ?_
      unfold convert
      simp only [Sem.run_bind, run_underlying hs, run_underlying hu, Result.andThen_ok]
      simp [Conv.intToInt, wrap_fits hC.1]
    · exact chkOther_spec h w
  · rename_i t x lo hi ho
    split at h
    · rename_i e a len cap hu hx
      split at h
      · rename_i l cl hh ch hl hhi
        simp only [Option.some.injEq, Prod.mk.injEq] at h
        obtain ⟨rfl, rfl⟩ := h
        obtain ⟨c1, c2, c3, c4, c5⟩ := hC
        obtain ⟨inf, hinf⟩ := Option.isSome_iff_exists.1 c5
        simp only [execOp, ho, hx, Option.map_none]
        refine fin ?_
        unfold Instr.sliceAt Instr.slice
        simp only [Sem.run_bind, run_underlying hu, Result.andThen_ok, run_sliceBounds hl hhi c1 c3 c2 c4, sizeOf, typeInfo, program, Sem.run, hinf, pure, cellsOf_info hinf, loA_eq hl]
      · cases h
    · rename_i m e a hu hx
      split at h
      · rename_i l cl hh ch hl hhi
        simp only [Option.some.injEq, Prod.mk.injEq] at h
        obtain ⟨rfl, rfl⟩ := h
        obtain ⟨c1, c2, c3, c4, c5⟩ := hC
        obtain ⟨inf, hinf⟩ := Option.isSome_iff_exists.1 c5
        simp only [execOp, ho, hx, Option.map_none]
        refine fin ?_
        unfold Instr.sliceAt
        simp only [Sem.run_bind, run_underlying hu, Result.andThen_ok, run_sliceBounds hl hhi c1 c3 c2 c4, sizeOf, typeInfo, program, Sem.run, hinf, pure, cellsOf_info hinf, Instr.sureAddr, loA_eq hl]
        simp only [Option.map_some]
        split <;> rfl
      · cases h
    · cases h
  · exact chkOther_spec h w

/-- A stretch of operations that look at no memory: the frame behind it, and the conditions. -/
def runChk (P : Program) (ops : Array Oper) (n : Nat) : List Oper → Env → Option (Env × Prop)
  | [], E => some (E, True)
  | o :: rest, E =>
    match wantedE ops E o with
    | some true =>
      (match chkOp P E o with
       | some (v, C) => bif opFine n E o then (match runChk P ops n rest (E.put o.dst v) with | some (E', C') => some (E', C ∧ C') | none => none) else none
       | none => none)
    | some false => bif dstOk n o.dst then runChk P ops n rest (E.put o.dst undef) else none
    | none => none

theorem wpListIn_chk {l rest : List Oper} : ∀ {E E' : Env} {C : Prop}, runChk P ops n l E = some (E', C) → C →
    (∀ a, At n ds E' a → wpListIn (FW r) 0 P ops Q rest a w) → ∀ a, At n ds E a → wpListIn (FW r) 0 P ops Q (l ++ rest) a w := by
  induction l with
  | nil => intro E E' C h _ hn a ha; simp only [runChk, Option.some.injEq, Prod.mk.injEq] at h; obtain ⟨rfl, _⟩ := h; exact hn a ha
  | cons o l ih =>
    intro E E' C h hC hn a ha
    unfold runChk at h
    rw [List.cons_append]
    split at h
    · rename_i hw
      split at h
      · rename_i v C1 hv
        cases hf : opFine n E o with
        | false => simp [hf] at h
        | true =>
          simp only [hf, cond_true] at h
          split at h
          · rename_i E2 C2 h2
            simp only [Option.some.injEq, Prod.mk.injEq] at h
            obtain ⟨rfl, rfl⟩ := h
            obtain ⟨h1, h3⟩ := opFine_spec (r := r) ha hf
            unfold wpListIn
            rw [if_pos (wantedE_spec ha hw)]
            refine ⟨about_FW, ?_⟩
            rw [show (FW r).round = r from rfl, h1, chkOp_spec hv hC.1 w]
            exact ih h2 hC.2 hn _ (ha.put _ _ h3)
          · cases h
      · cases h
    · rename_i hw
      cases hd : dstOk n o.dst with
      | false => simp [hd] at h
      | true =>
        simp only [hd, cond_true] at h
        unfold wpListIn
        rw [if_neg (by rw [wantedE_spec ha hw]; simp)]
        exact ⟨about_FW, ih h hC hn _ (ha.put _ _ (dstOk_spec hd))⟩
    · cases h

/-- The same, out of the region's operations k to k + m - 1; of the frame the slots ks are kept. -/
def reckon (P : Program) (ops : Array Oper) (n k m : Nat) (ks : List Nat) (E : Env) : Option (Env × Prop) :=
  match runChk P ops n ((ops.toList.drop k).take m) E with
  | some (E', C) => (match E'.to ks with | some E2 => some (E2, C) | none => none)
  | none => none

theorem WR.chk {k m : Nat} {ks : List Nat} {E E' : Env} {C : Prop} (h : reckon P ops n k m ks E = some (E', C)) (hC : C) (next : WR r P n ds ops (k + m) E' Q w) : WR r P n ds ops k E Q w := by
  unfold reckon at h
  split at h
  · rename_i E1 C1 h1
    split at h
    · rename_i E2 h2
      simp only [Option.some.injEq, Prod.mk.injEq] at h
      obtain ⟨rfl, rfl⟩ := h
      intro a ha
      have := wpListIn_chk (r := r) (ds := ds) (Q := Q) (w := w) (rest := ops.toList.drop (k + m)) h1 hC (fun a ha => next a (ha.to ks h2)) a ha
      rwa [← List.drop_drop, List.take_append_drop] at this
    · cases h
  · cases h

end
end Go.Sat
end
section
namespace Go.Sat
open Go

/-! ### worlds -/
/-- But for the blocks of S all that was there is as it was. -/
structure Ext (S : Nat → Prop) (w w' : World) : Prop where
  os : w'.os = w.os
  tape : w'.tape = w.tape
  output : w'.output = w.output
  size : w.heap.size ≤ w'.heap.size
  same : ∀ k, k < w.heap.size → ¬ S k → w'.heap[k]? = w.heap[k]?

abbrev Grow := Ext (fun _ => False)
abbrev Ext1 (b : Nat) := Ext (fun k => k = b)

theorem Ext.refl (S : Nat → Prop) (w : World) : Ext S w w := ⟨rfl, rfl, rfl, Nat.le_refl _, fun _ _ _ => rfl⟩
theorem Ext.trans {S : Nat → Prop} {a b c : World} (h : Ext S a b) (k : Ext S b c) : Ext S a c :=
  ⟨k.os.trans h.os, k.tape.trans h.tape, k.output.trans h.output, Nat.le_trans h.size k.size,
   fun i hi hn => (k.same i (Nat.lt_of_lt_of_le hi h.size) hn).trans (h.same i hi hn)⟩
theorem Ext.mono {S S' : Nat → Prop} {a b : World} (h : Ext S a b) (hs : ∀ k, S k → S' k) : Ext S' a b :=
  ⟨h.os, h.tape, h.output, h.size, fun i hi hn => h.same i hi fun hS => hn (hs i hS)⟩
theorem Grow.any {S : Nat → Prop} {a b : World} (h : Grow a b) : Ext S a b := h.mono fun _ h => h.elim
/-- What is written is newer than w0. -/
theorem Ext.old {S : Nat → Prop} {w0 a b : World} (h0 : Grow w0 a) (h : Ext S a b) (hs : ∀ k, S k → w0.heap.size ≤ k) : Grow w0 b :=
  ⟨h.os.trans h0.os, h.tape.trans h0.tape, h.output.trans h0.output, Nat.le_trans h0.size h.size,
   fun i hi _ => (h.same i (Nat.lt_of_lt_of_le hi h0.size) fun hS => absurd (hs i hS) (by omega)).trans (h0.same i hi id)⟩
theorem Ext1.old {b : Nat} {w0 a c : World} (h0 : Grow w0 a) (h : Ext1 b a c) (hb : w0.heap.size ≤ b) : Grow w0 c :=
  Ext.old h0 h (fun k hk => by rw [hk]; exact hb)
theorem Grow.drawn (w : World) (m : Nat) : Grow w { w with drawn := m } := ⟨rfl, rfl, rfl, Nat.le_refl _, fun _ _ _ => rfl⟩
theorem Grow.push (w : World) (o : Obj) : Grow w { w with heap := w.heap.push o } :=
  ⟨rfl, rfl, rfl, by simp, fun k hk _ => by simp [Array.getElem?_push]; omega⟩
theorem Ext.of_grownBy {w w' : World} {row : Option Nat} (h : w.grownBy w' row) : Ext (fun k => some k = row) w w' :=
  ⟨h.os, h.tape, h.output, h.size, fun k hk hn => h.block k hk hn⟩

/-! ### a block known whole -/
def Blk (w : World) (b : Nat) (cs : List Value) (T : TypeId) : Prop := w.heap[b]? = some (.cells cs.toArray T (0, 0))
theorem Blk.lt {w : World} {b : Nat} {cs : List Value} {T : TypeId} (h : Blk w b cs T) : b < w.heap.size := (Array.getElem?_eq_some_iff.1 h).1
theorem Blk.ext {S : Nat → Prop} {w w' : World} {b : Nat} {cs : List Value} {T : TypeId} (h : Blk w b cs T) (he : Ext S w w') (hn : ¬ S b) : Blk w' b cs T :=
  (he.same b h.lt hn).trans h
theorem Blk.up {w w' : World} {b : Nat} {cs : List Value} {T : TypeId} (h : Blk w b cs T) (he : Grow w w') : Blk w' b cs T := h.ext he id
theorem Blk.ne {w w' : World} {b c : Nat} {cs : List Value} {T : TypeId} (h : Blk w b cs T) (he : Ext1 c w w') (hn : b ≠ c) : Blk w' b cs T := h.ext he hn
theorem Blk.cell {w : World} {b : Nat} {cs : List Value} {T : TypeId} (h : Blk w b cs T) (j : Nat) : w.cell? ⟨b, j, none⟩ = cs[j]? := by
  have h' : w.heap[b]? = some (.cells cs.toArray T (0, 0)) := h
  simp [World.cell?, h']
theorem Blk.free {w : World} {b : Nat} {cs : List Value} {T : TypeId} (h : Blk w b cs T) (j : Nat) : w.frozen? ⟨b, j, none⟩ = false := by
  have h' : w.heap[b]? = some (.cells cs.toArray T (0, 0)) := h
  simp [World.frozen?, h']

/-! ### a row that can be read -/
def Row (w : World) (a : Option Addr) (cs : List Value) : Prop := ∀ j v, cs[j]? = some v → ∃ ad, a = some ad ∧ w.cell? (ad.add j) = some v

theorem cell_lt {w : World} {a : Addr} {v : Value} (h : w.cell? a = some v) : a.block < w.heap.size := by
  unfold World.cell? at h
  split at h
  · rename_i c e f hb; exact (Array.getElem?_eq_some_iff.1 hb).1
  · cases h
theorem cell_ext {S : Nat → Prop} {w w' : World} {a : Addr} {v : Value} (h : w.cell? a = some v) (he : Ext S w w') (hn : ¬ S a.block) : w'.cell? a = some v := by
  rw [World.cell?_of_block (he.same _ (cell_lt h) hn)]; exact h
theorem cell_up {w w' : World} {a : Addr} {v : Value} (h : w.cell? a = some v) (he : Grow w w') : w'.cell? a = some v := cell_ext h he id
@[simp] theorem add_block (a : Addr) (n : Nat) : (a.add n).block = a.block := by unfold Addr.add; split <;> rfl
theorem add_add (a : Addr) (x y : Nat) : (a.add x).add y = a.add (x + y) := by
  unfold Addr.add
  by_cases hx : x = 0
  · subst hx; simp
  · by_cases hy : y = 0
    · subst hy; simp [hx]
    · have : x + y ≠ 0 := by omega
      simp [hx, hy, Nat.add_assoc]
theorem add_zero (a : Addr) : a.add 0 = a := rfl
theorem add_mk (b o j : Nat) : (⟨b, o, none⟩ : Addr).add j = ⟨b, o + j, none⟩ := by unfold Addr.add; split <;> simp_all

theorem Row.nil (w : World) (a : Option Addr) : Row w a [] := fun j v h => by simp at h
theorem Row.ext {S : Nat → Prop} {w w' : World} {a : Option Addr} {cs : List Value} (h : Row w a cs) (he : Ext S w w') (hn : ∀ ad, a = some ad → ¬ S ad.block) : Row w' a cs :=
  fun j v hj => let ⟨ad, e, hc⟩ := h j v hj; ⟨ad, e, cell_ext hc he (by simpa using hn ad e)⟩
theorem Row.up {w w' : World} {a : Option Addr} {cs : List Value} (h : Row w a cs) (he : Grow w w') : Row w' a cs := h.ext he fun _ _ => id
/-- what is read lies in an elder block -/
theorem Row.ne {w0 w w' : World} {a : Option Addr} {cs : List Value} {c : Nat} (h : Row w a cs) (he : Ext1 c w w') (h0 : Row w0 a cs) (hc : w0.heap.size ≤ c) : Row w' a cs :=
  fun j v hj => by
    obtain ⟨ad, e, h1⟩ := h j v hj
    obtain ⟨ad', e', h2⟩ := h0 j v hj
    rw [e] at e'; cases e'
    have := cell_lt h2
    simp at this
    exact ⟨ad, e, cell_ext h1 he (by simp; omega)⟩
theorem Row.of_blk {w : World} {b : Nat} {cs : List Value} {T : TypeId} (h : Blk w b cs T) : Row w (some ⟨b, 0, none⟩) cs :=
  fun j v hj => ⟨_, rfl, by rw [add_mk, Nat.zero_add, h.cell, hj]⟩
theorem Row.of_blk_drop {w : World} {b o : Nat} {cs : List Value} {T : TypeId} (h : Blk w b cs T) : Row w (some ⟨b, o, none⟩) (cs.drop o) :=
  fun j v hj => ⟨_, rfl, by rw [add_mk, h.cell]; simpa using hj⟩
theorem Row.take {w : World} {a : Option Addr} {cs : List Value} (h : Row w a cs) (n : Nat) : Row w a (cs.take n) :=
  fun j v hj => h j v (by
    rw [List.getElem?_take] at hj
    split at hj
    · exact hj
    · cases hj)
theorem Row.cut {w : World} {a : Option Addr} {cs : List Value} (h : Row w a cs) {l m size : Nat} (hm : cs.length ≤ m * size) : Row w (cutA a l m size) (cs.drop (l * size)) := by
  intro j v hj
  rw [List.getElem?_drop] at hj
  obtain ⟨ad, rfl, hc⟩ := h _ _ hj
  unfold cutA
  by_cases he : m = l
  · subst he
    have := (List.getElem?_eq_some_iff.1 hj).1
    omega
  · rw [if_neg he]
    exact ⟨_, rfl, by rw [add_add]; exact hc⟩
theorem Row.app {w : World} {a : Option Addr} {xs ys : List Value} (h : Row w a (xs ++ ys)) : Row w a xs :=
  fun j v hj => h j v (by rw [List.getElem?_append_left (List.getElem?_eq_some_iff.1 hj).1]; exact hj)
theorem cutA_block {a : Option Addr} {l m size : Nat} {ad : Addr} (h : cutA a l m size = some ad) : ∃ ad', a = some ad' ∧ ad.block = ad'.block := by
  unfold cutA at h
  split at h
  · exact ⟨ad, h, rfl⟩
  · cases a with
    | none => cases h
    | some x => simp at h; subst h; exact ⟨x, rfl, by simp⟩

/-! ### a row of the call's own -/
section
variable {w w' : World} {base : Nat} {e : TypeId} {size : Nat} {v : Value} {k : Nat} {xs : List Value}
theorem own_open (h : w.ownsRow base e size v k xs) :
    (v = .slice none 0 0 ∧ k = 0 ∧ xs = []) ∨ ∃ g cap sp, v = .slice (some ⟨g, 0, none⟩) k cap ∧ base ≤ g ∧ Blk w g (xs ++ sp) e ∧ xs.length = k * size ∧ (xs ++ sp).length = cap * size ∧ k ≤ cap ∧ cap ≤ maxLen := by
  obtain ⟨h1, ⟨rfl, rfl⟩ | ⟨g, cap, cur, rfl, hb, hg, hk, hm, hs, ht⟩⟩ := h
  · exact .inl ⟨rfl, rfl, List.eq_nil_of_length_eq_zero (by simpa using h1)⟩
  · refine .inr ⟨g, cap, cur.toList.drop (k * size), rfl, hb, ?_, h1, ?_, hk, hm⟩
    · rw [← ht, List.take_append_drop]; exact hg
    · rw [← ht, List.take_append_drop]; simpa using hs
theorem own_mk {g cap : Nat} {sp : List Value} (hb : base ≤ g) (hB : Blk w g (xs ++ sp) e) (h1 : xs.length = k * size) (h2 : (xs ++ sp).length = cap * size) (hk : k ≤ cap) (hm : cap ≤ maxLen) :
    w.ownsRow base e size (.slice (some ⟨g, 0, none⟩) k cap) k xs :=
  ⟨h1, .inr ⟨g, cap, (xs ++ sp).toArray, rfl, hb, hB, hk, hm, by simpa using h2, by simp [h1 ▸ List.take_left' rfl]⟩⟩
theorem own_row {a : Option Addr} {len cap : Nat} (h : w.ownsRow base e size (.slice a len cap) k xs) : Row w a xs := by
  rcases own_open h with ⟨_, _, rfl⟩ | ⟨g, c, sp, he, _, hB, _⟩
  · exact .nil _ _
  · cases he; exact (Row.of_blk hB).app
theorem own_ext {S : Nat → Prop} (h : w.ownsRow base e size v k xs) (he : Ext S w w') (hn : ∀ b, v.ownBlock = some b → ¬ S b) : w'.ownsRow base e size v k xs := by
  obtain ⟨h1, h2⟩ := h
  refine ⟨h1, ?_⟩
  rcases h2 with h2 | ⟨g, cap, cur, rfl, hb, hg, r⟩
  · exact .inl h2
  · exact .inr ⟨g, cap, cur, rfl, hb, (he.same g (Array.getElem?_eq_some_iff.1 hg).1 (hn g rfl)).trans hg, r⟩
theorem own_up (h : w.ownsRow base e size v k xs) (he : Grow w w') : w'.ownsRow base e size v k xs := own_ext h he fun _ _ => id
theorem own_lower {base' : Nat} (h : w.ownsRow base e size v k xs) (hb : base' ≤ base) : w.ownsRow base' e size v k xs := by
  obtain ⟨h1, h2⟩ := h
  refine ⟨h1, ?_⟩
  rcases h2 with h2 | ⟨g, cap, cur, rfl, hg, r⟩
  · exact .inl h2
  · exact .inr ⟨g, cap, cur, rfl, Nat.le_trans hb hg, r⟩
/-- what is owned is a slice -/
theorem own_slice (h : w.ownsRow base e size v k xs) : ∃ a cap, v = .slice a k cap ∧ k ≤ cap ∧ cap ≤ maxLen ∧ (∀ ad, a = some ad → base ≤ ad.block ∧ ad.block < w.heap.size) ∧ Row w a xs ∧ (a = none → k = 0 ∧ xs = []) := by
  rcases own_open h with ⟨rfl, rfl, rfl⟩ | ⟨g, c, sp, rfl, hb, hB, _, _, h1, h2⟩
  · exact ⟨none, 0, rfl, Nat.le_refl _, Nat.zero_le _, fun _ h => (by cases h), Row.nil _ _, fun _ => ⟨rfl, rfl⟩⟩
  · exact ⟨_, c, rfl, h1, h2, fun ad h => (by cases h; exact ⟨hb, hB.lt⟩), (Row.of_blk hB).app, fun h => (by cases h)⟩
end

/-! ### rules for code -/
section
variable {r : Option Nat} {P : Program} {n : Nat} {ds : List Deferred} {Q : Exit → Act → World → Prop} {w : World} {E : Env}

theorem W.seq {x y : Code} (h : W r P n ds x E (Exit.then (y.wpIn (FW r) 0 P Q) Q) w) : W r P n ds (.seq x y) E Q w := fun a ha => wpIn_seq (h a ha)
theorem W.region {id : Nat} {ops : Array Oper} (h : WR r P n ds ops 0 E Q w) : W r P n ds (.region id ops false) E Q w := fun a ha => wpIn_region_list (h a ha)
/-- A plain region, and what stands behind it. -/
theorem W.regionSeq {id : Nat} {ops : Array Oper} {y : Code} (h : WR r P n ds ops 0 E (Exit.then (y.wpIn (FW r) 0 P Q) Q) w) : W r P n ds (.seq (.region id ops false) y) E Q w := W.seq (W.region h)
theorem W.skip (h : ∀ a, At n ds E a → Q .normal a w) : W r P n ds .skip E Q w := fun a ha => wpIn_skip (h a ha)
theorem W.ret (h : ∀ a, At n ds E a → Q .ret a w) : W r P n ds .ret E Q w := fun a ha => wpIn_ret (h a ha)
theorem W.exit {id : Nat} (h : ∀ a, At n ds E a → Q (.exit id) a w) : W r P n ds (.exit id) E Q w := fun a ha => wpIn_exit (h a ha)
theorem W.block {id : Nat} {c : Code} (h : W r P n ds c E (Exit.inBlock id Q) w) : W r P n ds (.block id c) E Q w := fun a ha => wpIn_block (h a ha)
theorem W.condT {c : Operand} {x y : Code} (hc : E.covers c = true) (hv : E.ev c = .bool true) (h : W r P n ds x E Q w) : W r P n ds (.cond c x y) E Q w :=
  fun a ha => wpIn_cond_true ((ha.eval hc).trans hv) (h a ha)
theorem W.condF {c : Operand} {x y : Code} (hc : E.covers c = true) (hv : E.ev c = .bool false) (h : W r P n ds y E Q w) : W r P n ds (.cond c x y) E Q w :=
  fun a ha => wpIn_cond_false ((ha.eval hc).trans hv) (h a ha)
/-- a test: both ways -/
theorem W.cond {c : Operand} {x y : Code} {b : Bool} (hc : E.covers c = true) (hv : E.ev c = .bool b) (ht : b = true → W r P n ds x E Q w) (hf : b = false → W r P n ds y E Q w) : W r P n ds (.cond c x y) E Q w :=
  fun a ha => wpIn_cond_split ((ha.eval hc).trans hv) (fun h => ht h a ha) (fun h => hf h a ha)
theorem W.condD {c : Operand} {x y : Code} {p : Prop} [Decidable p] (hc : E.covers c = true) (hv : E.ev c = .bool (decide p)) (ht : p → W r P n ds x E Q w) (hf : ¬ p → W r P n ds y E Q w) : W r P n ds (.cond c x y) E Q w :=
  W.cond hc hv (fun h => ht (of_decide_eq_true h)) (fun h => hf (of_decide_eq_false h))
theorem least {p : Nat → Prop} (h : ∃ m, p m) : ∃ m, p m ∧ ∀ k, p k → m ≤ k := by
  obtain ⟨m, hm⟩ := h
  induction m using Nat.strongRecOn with
  | _ m ih =>
    by_cases hs : ∃ k, k < m ∧ p k
    · obtain ⟨k, hk, hp⟩ := hs; exact ih k hk hp
    · exact ⟨m, hm, fun k hk => Nat.le_of_not_lt fun hlt => hs ⟨k, hlt, hk⟩⟩

theorem W.loop {ι : Type} {c : Code} (F : ι → Env) (H : ι → World → Prop) (μ : ι → Nat) (i0 : ι) (ks : List Nat) (hE : E.to ks = some (F i0)) (h0 : H i0 w)
    (round : ∀ i w, H i w → W r P n ds c (F i) (Exit.then (fun a w' => ∃ j, μ j < μ i ∧ H j w' ∧ At n ds (F j) a) Q) w) : W r P n ds (.loop c) E Q w := by
  intro a ha
  let p (a : Act) (w : World) (m : Nat) : Prop := ∃ i, H i w ∧ At n ds (F i) a ∧ μ i = m
  refine wpIn_loop (fun a w => ∃ m, p a w m) (fun a w => open Classical in if h : ∃ m, p a w m then Classical.choose (least h) else 0) ⟨_, i0, h0, ha.to ks hE, rfl⟩ ?_
  intro a w hI
  obtain ⟨⟨i, hH, hA, hm⟩, hmin⟩ := Classical.choose_spec (least hI)
  refine wpIn_mono (round i w hH a hA) ?_
  intro e a' w' hq
  cases e with
  | normal =>
    obtain ⟨j, hlt, hj, hA'⟩ := hq
    have hI' : ∃ m, p a' w' m := ⟨_, j, hj, hA', rfl⟩
    refine ⟨hI', ?_⟩
    simp only [dif_pos hI, dif_pos hI']
    have := (Classical.choose_spec (least hI')).2 _ ⟨j, hj, hA', rfl⟩
    omega
  | _ => exact hq

/-! ### entering and leaving a function -/
def argEnv : Nat → List Value → Env
  | _, [] => []
  | k, v :: vs => (k, v) :: argEnv (k + 1) vs
theorem argEnv_has (k : Nat) (vs : List Value) (t : Nat) : (argEnv k vs).has t = true → k ≤ t ∧ vs[t - k]? = some ((argEnv k vs).get t) := by
  induction vs generalizing k with
  | nil => intro h; simp [argEnv, Env.has] at h
  | cons v vs ih =>
    intro h
    by_cases he : k = t
    · subst he; simp [argEnv, Env.get]
    · have hb : Nat.beq k t = false := nbeq he
      simp only [argEnv, Env.has, hb, cond_false] at h
      obtain ⟨h1, h2⟩ := ih (k + 1) h
      refine ⟨by omega, ?_⟩
      simp only [argEnv, Env.get, hb, cond_false]
      rw [← h2, show t - k = (t - (k + 1)) + 1 by omega, List.getElem?_cons_succ]

/-- the results of a function, out of the frame and memory -/
inductive ResE (w : World) (P : Program) (E : Env) : List ResultVar → List Value → Prop
  | nil : ResE w P E [] []
  | tmp {t : Tmp} {rs : List ResultVar} {vs : List Value} (h : E.has t = true) (k : ResE w P E rs vs) : ResE w P E (.tmp t :: rs) (E.get t :: vs)
  | cell {t : Tmp} {T : TypeId} {ad : Addr} {v : Value} {rs : List ResultVar} {vs : List Value} (h : E.has t = true) (hg : E.get t = .pointer (some ad)) (hl : (loadVar T ad).run P w = .ok v w) (k : ResE w P E rs vs) :
      ResE w P E (.cell t T :: rs) (v :: vs)

def packed : List Value → Value
  | [v] => v
  | vs => .tuple vs.toArray

theorem run_mapM_list {α β : Type} (f : α → Sem β) (l : List α) (vs : List β) (h : ∀ (i : Nat) (x : α) (y : β), l[i]? = some x → vs[i]? = some y → (f x).run P w = .ok y w) (hl : l.length = vs.length) :
    (l.mapM f).run P w = .ok vs w := by
  induction l generalizing vs with
  | nil =>
    cases vs with
    | nil => simp
    | cons _ _ => simp at hl
  | cons x l ih =>
    cases vs with
    | nil => simp at hl
    | cons y vs =>
      rw [List.mapM_cons]
      have h1 := h 0 x y (by simp) (by simp)
      have h2 := ih vs (fun i a b ha hb => h (i + 1) a b (by simpa using ha) (by simpa using hb)) (by simpa using hl)
      simp [Sem.run_bind, h1, h2]

theorem run_results {fn : Func} {a : Act} (ha : At n ds E a) {vs : List Value} (h : ResE w P E fn.results.toList vs) : (results fn a.tmps).run P w = .ok (packed vs) w := by
  have key : ∀ (rs : List ResultVar) (vs : List Value), ResE w P E rs vs → rs.length = vs.length ∧ ∀ (i : Nat) (x : ResultVar) (y : Value), rs[i]? = some x → vs[i]? = some y →
      ((match x with | .tmp t => pure (a.tmps.getD t undef) | .cell p t => do loadVar t (← asAddr (a.tmps.getD p undef)) : Sem Value)).run P w = .ok y w := by
    intro rs vs h
    induction h with
    | nil => exact ⟨rfl, fun i x y hx => by simp at hx⟩
    | @tmp t rs vs hh _ ih =>
      refine ⟨by simp [ih.1], fun i x y hx hy => ?_⟩
      cases i with
      | zero =>
        simp only [List.getElem?_cons_zero, Option.some.injEq] at hx hy
        subst hx hy
        simp [Array.getD_eq_getD_getElem?, ha.slot t hh]
      | succ i => exact ih.2 i x y (by simpa using hx) (by simpa using hy)
    | @cell t T ad v rs vs hh hg hl _ ih =>
      refine ⟨by simp [ih.1], fun i x y hx hy => ?_⟩
      cases i with
      | zero =>
        simp only [List.getElem?_cons_zero, Option.some.injEq] at hx hy
        subst hx hy
        have hs := ha.slot t hh
        rw [hg] at hs
        simp [Array.getD_eq_getD_getElem?, hs, asAddr, hl]
      | succ i => exact ih.2 i x y (by simpa using hx) (by simpa using hy)
  obtain ⟨hlen, hall⟩ := key _ _ h
  have h1 := run_mapM_list (P := P) (w := w) (fun x : ResultVar => (match x with | .tmp t => pure (a.tmps.getD t undef) | .cell p t => do loadVar t (← asAddr (a.tmps.getD p undef)) : Sem Value)) fn.results.toList vs (fun i x y hx hy => hall i x y hx hy) hlen
  have h2 : (fn.results.mapM (fun x : ResultVar => (match x with | .tmp t => pure (a.tmps.getD t undef) | .cell p t => do loadVar t (← asAddr (a.tmps.getD p undef)) : Sem Value))).run P w = .ok vs.toArray w := by
    rw [Array.mapM_eq_mapM_toList, map_eq_pure_bind, Sem.run_bind, h1]
    rfl
  unfold results
  refine (Sem.run_bind ..).trans ?_
  erw [h2]
  match vs with
  | [] => simp [packed]
  | [v] => simp [packed]
  | v :: u :: vs => simp [packed]

/-- A function's contract, out of its walk. -/
theorem Ret.of {f : FuncId} {fn : Func} {c : Code} {args : List Value} {R : Value → World → Prop} (hf : P.funcs[f]? = some fn) (hb : fn.body = some c) (hn : fn.ntmps = n) (hl : args.length ≤ n)
    (h : W none P n [] c (argEnv 0 args) (bodyPost P fn fun e w' => ∃ v, e = .returned v ∧ R v w') w) : Ret P f args.toArray w R := by
  refine (callsIn_FW (n := 0) none).1 (callsIn_of_wp hf hb trivial (h _ ⟨?_, rfl, fun t ht => ?_⟩) rfl)
  · simp [hn]; omega
  · obtain ⟨_, h2⟩ := argEnv_has 0 args t ht
    have hlt : t < args.length := (List.getElem?_eq_some_iff.1 h2).1
    rw [Array.getElem?_append_left (by simpa using hlt)]
    simpa using h2

/-- the end of a function -/
theorem fin_ret {fn : Func} {R : Value → World → Prop} (vs : List Value) (hr : ResE w P E fn.results.toList vs) (h : R (packed vs) w) :
    ∀ a, At n [] E a → bodyPost P fn (fun e w' => ∃ v, e = .returned v ∧ R v w') .ret a w :=
  fun _ ha => ⟨ha.defers, _, run_results ha hr, _, rfl, h⟩
theorem fin_end {fn : Func} {R : Value → World → Prop} (vs : List Value) (hr : ResE w P E fn.results.toList vs) (h : R (packed vs) w) :
    ∀ a, At n [] E a → bodyPost P fn (fun e w' => ∃ v, e = .returned v ∧ R v w') .normal a w :=
  fun _ ha => ⟨ha.defers, _, run_results ha hr, _, rfl, h⟩
end

/-! ### where a piece of code ends -/
section
variable {r : Option Nat} {P : Program} {n : Nat} {ds : List Deferred} {Q Q2 : Exit → Act → World → Prop} {w : World} {E : Env} {K : Act → World → Prop} {c : Code} {i id : Nat}
theorem endN_then (h : W r P n ds c E Q w) : ∀ a, At n ds E a → Exit.then (c.wpIn (FW r) 0 P Q) Q2 .normal a w := h
theorem endN_round (h : ∀ a, At n ds E a → K a w) : ∀ a, At n ds E a → Exit.then K Q .normal a w := h
theorem endN_block (h : ∀ a, At n ds E a → Q .normal a w) : ∀ a, At n ds E a → Exit.inBlock id Q .normal a w := h
theorem endX_then (h : ∀ a, At n ds E a → Q (.exit i) a w) : ∀ a, At n ds E a → Exit.then K Q (.exit i) a w := h
theorem endX_hit (h : ∀ a, At n ds E a → Q .normal a w) : ∀ a, At n ds E a → Exit.inBlock i Q (.exit i) a w := fun a ha => by simpa [Exit.inBlock] using h a ha
theorem endX_miss (hne : Nat.beq i id = false) (h : ∀ a, At n ds E a → Q (.exit i) a w) : ∀ a, At n ds E a → Exit.inBlock id Q (.exit i) a w := fun a ha => by
  have : i ≠ id := fun e => by subst e; simp at hne
  simpa [Exit.inBlock, this] using h a ha
theorem endR_then (h : ∀ a, At n ds E a → Q .ret a w) : ∀ a, At n ds E a → Exit.then K Q .ret a w := h
theorem endR_block (h : ∀ a, At n ds E a → Q .ret a w) : ∀ a, At n ds E a → Exit.inBlock id Q .ret a w := h
/-- a round's end -/
theorem end_round {ι : Type} {F : ι → Env} {H : ι → World → Prop} {μ : ι → Nat} {i : ι} (j : ι) (ks : List Nat) (hE : E.to ks = some (F j)) (hm : μ j < μ i) (hH : H j w) :
    ∀ a, At n ds E a → ∃ j, μ j < μ i ∧ H j w ∧ At n ds (F j) a := fun _ ha => ⟨j, hm, hH, ha.to ks hE⟩
theorem W.condE {c : Operand} {x y : Code} {p q : Int} (hc : E.covers c = true) (hv : E.ev c = .bool (p == q)) (ht : p = q → W r P n ds x E Q w) (hf : p ≠ q → W r P n ds y E Q w) : W r P n ds (.cond c x y) E Q w :=
  W.cond hc hv (fun h => ht (by simpa using h)) (fun h => hf (by simpa using h))
theorem W.condN {c : Operand} {x y : Code} {p q : Int} (hc : E.covers c = true) (hv : E.ev c = .bool (p != q)) (ht : p ≠ q → W r P n ds x E Q w) (hf : p = q → W r P n ds y E Q w) : W r P n ds (.cond c x y) E Q w :=
  W.cond hc hv (fun h => ht (by simpa using h)) (fun h => hf (by simpa using h))
end

/-! ### rules for operations on memory -/
section
variable {r : Option Nat} {P : Program} {n : Nat} {ds : List Deferred} {ops : Array Oper} {Q : Exit → Act → World → Prop} {w : World} {E : Env}

def mkO (op : Op) (ty : TypeId) : Oper := ⟨none, op, ty, "", #[], none⟩
theorem execOp_mkO (ρ : Operand → Value) (o : Oper) : execOp ρ o = execOp ρ (mkO o.op o.type) := rfl
/-- the operation that stands next, if it may run and all its operands are known -/
def look (ops : Array Oper) (n k : Nat) (E : Env) : Option (Op × TypeId × Option Tmp) :=
  match ops[k]? with
  | none => none
  | some o =>
    match wantedE ops E o with
    | some true => bif opFine n E o then some (o.op, o.type, o.dst) else none
    | _ => none
theorem look_spec {k : Nat} {op : Op} {ty : TypeId} {dst : Option Tmp} (h : look ops n k E = some (op, ty, dst)) :
    ∃ o, ops[k]? = some o ∧ wantedE ops E o = some true ∧ opFine n E o = true ∧ o.op = op ∧ o.type = ty ∧ o.dst = dst := by
  unfold look at h
  split at h
  · cases h
  · rename_i o ho
    split at h
    · rename_i hw
      cases hf : opFine n E o with
      | false => simp [hf] at h
      | true =>
        simp only [hf, cond_true, Option.some.injEq, Prod.mk.injEq] at h
        exact ⟨o, ho, hw, hf, h.1, h.2.1, h.2.2⟩
    · cases h

theorem WR.run {k : Nat} {op : Op} {ty : TypeId} {dst : Option Tmp} {v : Value} {w' : World} (hl : look ops n k E = some (op, ty, dst))
    (hrun : (execOp E.ev (mkO op ty)).run P w = .ok (.value v) w') (next : WR r P n ds ops (k + 1) (E.put dst v) Q w') : WR r P n ds ops k E Q w := by
  obtain ⟨o, ho, hw, hf, rfl, rfl, rfl⟩ := look_spec hl
  exact WR.op ho hw hf hrun next
theorem WR.runSkip {k : Nat} {op : Op} {ty : TypeId} {dst : Option Tmp} {w' : World} (hl : look ops n k E = some (op, ty, dst))
    (hrun : (execOp E.ev (mkO op ty)).run P w = .ok .skip w') (next : WR r P n ds ops (k + 1) (E.put dst undef) Q w') : WR r P n ds ops k E Q w := by
  obtain ⟨o, ho, hw, hf, rfl, rfl, rfl⟩ := look_spec hl
  exact WR.opSkip ho hw hf hrun next

/-- a call: the callee and its arguments are reckoned -/
def lookCall (P : Program) (ops : Array Oper) (n k : Nat) (E : Env) : Option (FuncId × Array Value × Option Tmp) :=
  match ops[k]? with
  | none => none
  | some o =>
    match wantedE ops E o with
    | some true => bif opFine n E o then (match pureRun P (execOp E.ev o) with | some (.enter f args) => some (f, args, o.dst) | _ => none) else none
    | _ => none
theorem WR.callR {k : Nat} {f : FuncId} {args : Array Value} {dst : Option Tmp} {R : Value → World → Prop} (hl : lookCall P ops n k E = some (f, args, dst)) (hc : Ret P f args w R)
    (next : ∀ v w', R v w' → WR r P n ds ops (k + 1) (E.put dst v) Q w') : WR r P n ds ops k E Q w := by
  unfold lookCall at hl
  split at hl
  · cases hl
  · rename_i o ho
    split at hl
    · rename_i hw
      cases hf : opFine n E o with
      | false => simp [hf] at hl
      | true =>
        simp only [hf, cond_true] at hl
        split at hl
        · rename_i f' args' hp
          simp only [Option.some.injEq, Prod.mk.injEq] at hl
          obtain ⟨rfl, rfl, rfl⟩ := hl
          exact WR.call hc ho hw hf hp next
        · cases hl
    · cases hl

theorem run_v {e : Sem Value} {x : Value} {w' : World} (he : e.run P w = .ok x w') : (do pure (Next.value (← e)) : Sem Next).run P w = .ok (.value x) w' := by
  simp [he]
theorem run_u {e : Sem Unit} {w' : World} (he : e.run P w = .ok () w') : (do e; pure Next.skip : Sem Next).run P w = .ok .skip w' := by
  simp [he]

/-- the zero value's cells, out of the table -/
def zeroOf (P : Program) (T : TypeId) : Option (List Value) := ((P.info? T).bind (·.zero)).map (·.cells.toList)
theorem run_zero {T : TypeId} {zs : List Value} (h : zeroOf P T = some zs) : ∃ z : Value, z.cells.toList = zs ∧ (zeroValue T).run P w = .ok z w := by
  unfold zeroOf at h
  cases hi : P.info? T with
  | none => simp [hi] at h
  | some i =>
    cases hz : i.zero with
    | none => simp [hi, hz] at h
    | some z =>
      simp [hi, hz] at h
      exact ⟨z, h, by simp [zeroValue, typeInfo, hi, hz, program, Sem.run]⟩

theorem WR.alloc {k : Nat} {T : TypeId} {ty : TypeId} {dst : Option Tmp} {zs : List Value} (hl : look ops n k E = some (.alloc T, ty, dst)) (hz : zeroOf P T = some zs)
    (next : ∀ b w', w.heap.size = b → Grow w w' → Blk w' b zs T → b < w'.heap.size → WR r P n ds ops (k + 1) (E.put dst (.pointer (some ⟨b, 0, none⟩))) Q w') : WR r P n ds ops k E Q w := by
  obtain ⟨z, rfl, hr⟩ := run_zero (w := w) hz
  have hB : Blk { w with heap := w.heap.push (.cells z.cells T (0, 0)) } w.heap.size z.cells.toList T := by simp [Blk]
  refine WR.run hl (v := .pointer (some ⟨w.heap.size, 0, none⟩)) (w' := { w with heap := w.heap.push (.cells z.cells T (0, 0)) }) ?_ (next _ _ rfl (Grow.push _ _) hB hB.lt)
  refine run_v ?_
  simp [Instr.alloc, Sem.run_bind, hr, newVar, newRow, newObj, Sem.run]

theorem WR.box {k : Nat} {T : TypeId} {x : Operand} {ty : TypeId} {dst : Option Tmp} (hl : look ops n k E = some (.box T x, ty, dst))
    (next : ∀ b w', w.heap.size = b → Grow w w' → Blk w' b (E.ev x).cells.toList T → b < w'.heap.size → WR r P n ds ops (k + 1) (E.put dst (.pointer (some ⟨b, 0, none⟩))) Q w') : WR r P n ds ops k E Q w := by
  have hB : Blk { w with heap := w.heap.push (.cells (E.ev x).cells T (0, 0)) } w.heap.size (E.ev x).cells.toList T := by simp [Blk]
  refine WR.run hl (v := .pointer (some ⟨w.heap.size, 0, none⟩)) (w' := { w with heap := w.heap.push (.cells (E.ev x).cells T (0, 0)) }) ?_ (next _ _ rfl (Grow.push _ _) hB hB.lt)
  refine run_v ?_
  simp [Instr.box, newVar, newRow, newObj, Sem.run]

/-- of one cell? -/
def oneT (P : Program) (T : TypeId) : Bool :=
  match P.underlying T with
  | some (.struct _) | some (.array _ _) | none => false
  | _ => true
def aggT (P : Program) (T : TypeId) : Bool :=
  match P.underlying T with
  | some (.struct _) | some (.array _ _) => (P.info? T).isSome
  | _ => false
theorem run_isAgg_one {T : TypeId} (h : oneT P T = true) : (isAgg T).run P w = .ok false w := by
  unfold oneT at h
  cases hu : P.underlying T with
  | none => simp [hu] at h
  | some d =>
    unfold isAgg
    simp only [Sem.run_bind, run_underlying hu, Result.andThen_ok]
    cases d <;> simp_all
theorem run_isAgg_agg {T : TypeId} (h : aggT P T = true) : (isAgg T).run P w = .ok true w ∧ (sizeOf T).run P w = .ok (P.cellsOf T) w := by
  unfold aggT at h
  cases hu : P.underlying T with
  | none => simp [hu] at h
  | some d =>
    have hi : (P.info? T).isSome = true := by cases d <;> simp_all
    obtain ⟨inf, hinf⟩ := Option.isSome_iff_exists.1 hi
    refine ⟨?_, by simp [sizeOf, typeInfo, program, Sem.run, hinf, cellsOf_info hinf]⟩
    unfold isAgg
    simp only [Sem.run_bind, run_underlying hu, Result.andThen_ok]
    cases d <;> simp_all
theorem run_load_cell {ad : Addr} {v : Value} (h : w.cell? ad = some v) : (load ad).run P w = .ok v w := by simp [load, Sem.run, h]

theorem loadVar_one {T : TypeId} {ad : Addr} {v : Value} (hT : oneT P T = true) (hc : w.cell? ad = some v) : (loadVar T ad).run P w = .ok v w := by
  unfold loadVar
  simp only [Sem.run_bind, run_isAgg_one hT, Result.andThen_ok]
  exact run_load_cell hc
theorem loadVar_agg {T : TypeId} {ad : Addr} {cs : List Value} (hT : aggT P T = true) (hs : P.cellsOf T = cs.length) (hc : ∀ j v, cs[j]? = some v → w.cell? (ad.add j) = some v) :
    (loadVar T ad).run P w = .ok (.agg cs.toArray) w := by
  unfold loadVar
  obtain ⟨h1, h2⟩ := run_isAgg_agg (w := w) hT
  simp [Sem.run_bind, h1, h2, hs, run_loadCells_list (P := P) w ad cs hc]

theorem WR.load {k : Nat} {T : TypeId} {x : Operand} {ty : TypeId} {dst : Option Tmp} {ad : Addr} {v : Value} (hl : look ops n k E = some (.load T x, ty, dst)) (hx : E.ev x = .pointer (some ad))
    (hv : (loadVar T ad).run P w = .ok v w) (next : WR r P n ds ops (k + 1) (E.put dst v) Q w) : WR r P n ds ops k E Q w := by
  refine WR.run hl (v := v) (w' := w) (run_v ?_) next
  show (Instr.loadAt T (E.ev x)).run P w = _
  rw [hx]
  simpa [Instr.loadAt, Instr.sureAddr] using hv

/-- a block of which the cells from o on are turned -/
def splice (cs : List Value) (o : Nat) (vs : List Value) : List Value := cs.take o ++ vs ++ cs.drop (o + vs.length)
theorem splice_all {cs vs : List Value} (h : vs.length = cs.length) : splice cs 0 vs = vs := by simp [splice, h]
theorem splice_one (cs : List Value) (o : Nat) (v : Value) (h : o < cs.length) : splice cs o [v] = cs.set o v := by
  rw [List.set_eq_take_append_cons_drop, if_pos h]; simp [splice]
@[simp] theorem length_splice' (cs : List Value) (o : Nat) (vs : List Value) (h : o + vs.length ≤ cs.length) : (splice cs o vs).length = cs.length := by simp [splice]; omega

def one' : Value → Bool | .agg _ | .tuple _ => false | _ => true

theorem run_storeCells {b : Nat} {T0 : TypeId} : ∀ (vs : List Value) (o i : Nat) (cs : List Value) (w : World), Blk w b cs T0 → o + i + vs.length ≤ cs.length → vs.all one' = true →
    ∃ w', (storeCells ⟨b, o, none⟩ vs i).run P w = .ok () w' ∧ Blk w' b (splice cs (o + i) vs) T0 ∧ Ext1 b w w' ∧ w'.heap.size = w.heap.size := by
  intro vs
  induction vs with
  | nil => intro o i cs w hB _ _; exact ⟨w, rfl, by simpa [splice] using hB, Ext.refl _ _, rfl⟩
  | cons v vs ih =>
    intro o i cs w hB hlen hone
    simp only [List.length_cons] at hlen
    simp only [List.all_cons, Bool.and_eq_true] at hone
    have hc : w.cell? ((⟨b, o, none⟩ : Addr).add i) = some (cs[o + i]'(by omega)) := by rw [add_mk, hB.cell]; simp
    have hfz : w.frozen? ((⟨b, o, none⟩ : Addr).add i) = false := by rw [add_mk, hB.free]
    have hB' : Blk (w.setCell ((⟨b, o, none⟩ : Addr).add i) v) b (cs.set (o + i) v) T0 := by
      have hB0 : w.heap[b]? = some (.cells cs.toArray T0 (0, 0)) := hB
      simp [Blk, World.setCell, add_mk, Array.getElem?_modify, hB0]
    have hE : Ext1 b w (w.setCell ((⟨b, o, none⟩ : Addr).add i) v) :=
      ⟨rfl, rfl, rfl, by simp [World.setCell], fun k hk hn => by
        have : ¬ b = k := fun h => hn h.symm
        simp [World.setCell, add_mk, Array.getElem?_modify, this]⟩
    obtain ⟨w', hr, hB2, hE2, hs2⟩ := ih o (i + 1) (cs.set (o + i) v) _ hB' (by simp; omega) hone.2
    refine ⟨w', ?_, ?_, hE.trans hE2, by rw [hs2]; simp [World.setCell]⟩
    · have h1 : (store ((⟨b, o, none⟩ : Addr).add i) v).run P w = .ok () (w.setCell ((⟨b, o, none⟩ : Addr).add i) v) := by
        have hv := hone.1
        cases v <;> simp_all [store, Sem.run, one']
      simp only [storeCells, Sem.run_bind, h1, Result.andThen_ok]
      exact hr
    · have : splice (cs.set (o + i) v) (o + (i + 1)) vs = splice cs (o + i) (v :: vs) := by
        unfold splice
        rw [show o + (i + 1) = (o + i) + 1 by omega, List.take_add_one, List.length_cons]
        rw [List.take_set_of_le (Nat.le_refl _), List.getElem?_set_self (by omega), List.drop_set_of_lt (by omega)]
        simp [Nat.add_assoc, Nat.add_comm 1]
      rw [← this]; exact hB2

theorem WR.store {k : Nat} {T T0 : TypeId} {x y : Operand} {ty : TypeId} {dst : Option Tmp} {b o : Nat} {cs : List Value} (hl : look ops n k E = some (.store T x y, ty, dst)) (hx : E.ev x = .pointer (some ⟨b, o, none⟩))
    (hB : Blk w b cs T0) (vs : List Value) (hv : (E.ev y).cells.toList = vs) (hs : (P.info? T).map (·.size) = some vs.length) (hlen : o + vs.length ≤ cs.length) (hone : vs.all one' = true)
    (next : ∀ w', Ext1 b w w' → w'.heap.size = w.heap.size → Blk w' b (splice cs o vs) T0 → WR r P n ds ops (k + 1) (E.put dst undef) Q w') : WR r P n ds ops k E Q w := by
  subst hv
  obtain ⟨w', hr, hB', hE, hz⟩ := run_storeCells (P := P) (E.ev y).cells.toList o 0 cs w hB (by simpa using hlen) hone
  refine WR.runSkip hl (w' := w') (run_u ?_) (next w' hE hz (by simpa using hB'))
  show (Instr.storeAt T (E.ev x) (E.ev y)).run P w = _
  rw [hx]
  cases hi : P.info? T with
  | none => simp [hi] at hs
  | some inf =>
    have hsz : inf.size = (E.ev y).cells.size := by simpa [hi] using hs
    simp [Instr.storeAt, Instr.sureAddr, storeVar, sizeOf, typeInfo, program, Sem.run, hi, hsz, hr]


/-! ### whole numbers in memory -/
def ints (k : IntKind) (xs : List Int) : List Value := xs.map (Value.int k)
def rd (xs : List Int) (i : Int) : Int := xs.getD i.toNat 0
@[simp] theorem length_ints (k : IntKind) (xs : List Int) : (ints k xs).length = xs.length := by simp [ints]
theorem ints_get {k : IntKind} {xs : List Int} {j : Nat} (h : j < xs.length) : (ints k xs)[j]? = some (.int k (xs.getD j 0)) := by
  simp [ints, h]
theorem one_ints (k : IntKind) (xs : List Int) : (ints k xs).all one' = true := by simp [ints, one']
theorem ints_append (k : IntKind) (xs ys : List Int) : ints k (xs ++ ys) = ints k xs ++ ints k ys := by simp [ints]
theorem ints_drop (k : IntKind) (xs : List Int) (n : Nat) : ints k (xs.drop n) = (ints k xs).drop n := by simp [ints, List.map_drop]
theorem ints_take (k : IntKind) (xs : List Int) (n : Nat) : ints k (xs.take n) = (ints k xs).take n := by simp [ints, List.map_take]
theorem ints_set (k : IntKind) (xs : List Int) (j : Nat) (v : Int) : (ints k xs).set j (.int k v) = ints k (xs.set j v) := by simp [ints, List.map_set]
theorem ints_replicate (k : IntKind) (n : Nat) (v : Int) : ints k (List.replicate n v) = List.replicate n (.int k v) := by simp [ints]
theorem Row.int {a : Option Addr} {k : IntKind} {xs : List Int} (h : Row w a (ints k xs)) {j : Nat} (hj : j < xs.length) : ∃ A, a = some A ∧ w.cell? (A.add j) = some (.int k (xs.getD j 0)) := h j _ (ints_get hj)

theorem WR.loadInt {k : Nat} {T T0 : TypeId} {x : Operand} {ty : TypeId} {dst : Option Tmp} {b o j : Nat} {kd : IntKind} {xs : List Int} (hl : look ops n k E = some (.load T x, ty, dst)) (hx : E.ev x = .pointer (some ⟨b, o, none⟩))
    (hB : Blk w b (ints kd xs) T0) (hT : oneT P T = true) (ho : o = j) (hj : j < xs.length) (next : WR r P n ds ops (k + 1) (E.put dst (.int kd (xs.getD j 0))) Q w) : WR r P n ds ops k E Q w :=
  WR.load hl hx (loadVar_one hT (by rw [hB.cell, ho]; exact ints_get hj)) next
theorem WR.loadRow {k : Nat} {T : TypeId} {x : Operand} {ty : TypeId} {dst : Option Tmp} {A : Addr} {o j : Nat} {kd : IntKind} {xs : List Int} (hl : look ops n k E = some (.load T x, ty, dst)) (hx : E.ev x = .pointer (some (addM A o)))
    (hR : Row w (some A) (ints kd xs)) (hT : oneT P T = true) (ho : o = j) (hj : j < xs.length) (next : WR r P n ds ops (k + 1) (E.put dst (.int kd (xs.getD j 0))) Q w) : WR r P n ds ops k E Q w :=
  WR.load hl hx (loadVar_one hT (by
    obtain ⟨ad, e, h⟩ := hR.int hj
    cases e; rw [addM_eq, ho]; exact h)) next
theorem WR.storeInt {k : Nat} {T T0 : TypeId} {x y : Operand} {ty : TypeId} {dst : Option Tmp} {b o j : Nat} {kd : IntKind} {xs : List Int} {v : Int} (hl : look ops n k E = some (.store T x y, ty, dst)) (hx : E.ev x = .pointer (some ⟨b, o, none⟩))
    (hB : Blk w b (ints kd xs) T0) (hv : E.ev y = .int kd v) (hs : (P.info? T).map (·.size) = some 1) (ho : o = j) (hj : j < xs.length)
    (next : ∀ w', Ext1 b w w' → w'.heap.size = w.heap.size → Blk w' b (ints kd (xs.set j v)) T0 → WR r P n ds ops (k + 1) (E.put dst undef) Q w') : WR r P n ds ops k E Q w :=
  WR.store hl hx hB [.int kd v] (by rw [hv]; rfl) hs (by simp; omega) rfl fun w' h1 h2 h3 => next w' h1 h2 (by rw [splice_one _ _ _ (by simp; omega), ho, ints_set] at h3; exact h3)

def bAnd (k : IntKind) (a b : Int) : Int := k.wrap (BitVec.ofInt k.bits a &&& BitVec.ofInt k.bits b).toNat
def bOr (k : IntKind) (a b : Int) : Int := k.wrap (BitVec.ofInt k.bits a ||| BitVec.ofInt k.bits b).toNat
def bXor (k : IntKind) (a b : Int) : Int := k.wrap (BitVec.ofInt k.bits a ^^^ BitVec.ofInt k.bits b).toNat
def bAndNot (k : IntKind) (a b : Int) : Int := k.wrap (BitVec.ofInt k.bits a &&& ~~~BitVec.ofInt k.bits b).toNat

theorem W.condND {c : Operand} {x y : Code} {p : Prop} [Decidable p] (hc : E.covers c = true) (hv : E.ev c = .bool (!decide p)) (ht : ¬ p → W r P n ds x E Q w) (hf : p → W r P n ds y E Q w) : W r P n ds (.cond c x y) E Q w :=
  W.cond hc hv (fun h => ht (by simpa using h)) (fun h => hf (by simpa using h))

def zer (n : Nat) : List Int := List.replicate n 0
theorem zer_length (n : Nat) : (zer n).length = n := by simp [zer]
theorem len_set {xs : List Int} {n j : Nat} {v : Int} (h : xs.length = n) : (xs.set j v).length = n := by simp [h]
theorem zer_get (n j : Nat) : (zer n).getD j 0 = 0 := by
  simp only [zer, List.getD_eq_getElem?_getD, List.getElem?_replicate]; split <;> rfl
theorem ints_rd {k : IntKind} {xs : List Int} {o : Nat} {i : Int} (ho : o = i.toNat) (hi : i.toNat < xs.length) : (ints k xs)[o]? = some (.int k (rd xs i)) := by
  subst ho; exact ints_get hi
theorem row_rd {T : TypeId} {A : Addr} {o : Nat} {i : Int} {kd : IntKind} {xs : List Int} (hR : Row w (some A) (ints kd xs)) (hT : oneT P T = true) (ho : o = i.toNat) (hi : i.toNat < xs.length) :
    (loadVar T (addM A o)).run P w = .ok (.int kd (rd xs i)) w := loadVar_one hT (by
    obtain ⟨ad, e, h⟩ := hR.int hi
    cases e; rw [addM_eq, ho]; exact h)
theorem blk_agg {T T0 : TypeId} {b : Nat} {cs : List Value} (hB : Blk w b cs T0) (hT : aggT P T = true) (hs : cs.length = P.cellsOf T) : (loadVar T ⟨b, 0, none⟩).run P w = .ok (.agg cs.toArray) w :=
  loadVar_agg hT hs.symm fun j v hj => by rw [add_mk, Nat.zero_add, hB.cell]; exact hj
theorem blk_part {T T0 : TypeId} {b o : Nat} {cs ps : List Value} (hB : Blk w b cs T0) (hT : aggT P T = true) (hs : P.cellsOf T = ps.length) (hp : (cs.drop o).take ps.length = ps) : (loadVar T ⟨b, o, none⟩).run P w = .ok (.agg ps.toArray) w :=
  loadVar_agg hT hs fun j v hj => by
    rw [add_mk, hB.cell]
    rw [← hp, List.getElem?_take] at hj
    split at hj
    · simpa using hj
    · cases hj
theorem own_ne {w' : World} {base : Nat} {e : TypeId} {size : Nat} {v : Value} {k c : Nat} {xs : List Value} (h : w.ownsRow base e size v k xs) (he : Ext1 c w w') (hc : ∀ b, v.ownBlock = some b → b ≠ c) : w'.ownsRow base e size v k xs :=
  own_ext h he fun b hb => hc b hb
end
end Go.Sat
end
section
namespace Go.Sat
open Go

section
variable {r : Option Nat} {P : Program} {n : Nat} {ds : List Deferred} {ops : Array Oper} {Q : Exit → Act → World → Prop}

/-- operation i waits for j -/
inductive Dep (ops : Array Oper) : Nat → Nat → Prop
  | edge {i : Nat} {o : Oper} {e : Edge} (ho : ops[i]? = some o) (he : e ∈ o.after) (hb : Region.binds .any e = true) : Dep ops i e.on
  | trans {i j k : Nat} (h : Dep ops i j) (h' : Dep ops j k) : Dep ops i k

def depB (ops : Array Oper) (i j : Nat) : Bool := ((Region.before ops).getD i 0).testBit j

theorem testBit_edges (ops : Array Oper) (i : Nat) (o : Oper) (ho : ops[i]? = some o) (acc : Array Nat) (hacc : ∀ k j, (acc.getD k 0).testBit j = true → Dep ops k j) :
    ∀ (l : List Edge) (s : Nat), (∀ e ∈ l, e ∈ o.after) → (∀ j, s.testBit j = true → Dep ops i j) →
      ∀ j, (l.foldl (fun s e => if Region.binds .any e then s ||| 2 ^ e.on ||| acc.getD e.on 0 else s) s).testBit j = true → Dep ops i j := by
  intro l
  induction l with
  | nil => intro s _ hs j h; exact hs j h
  | cons e l ih =>
    intro s hl hs j h
    simp only [List.foldl_cons] at h
    refine ih _ (fun e' h' => hl e' (List.mem_cons_of_mem _ h')) ?_ j h
    intro j' h'
    split at h'
    · rename_i hb
      simp only [Nat.testBit_or, Bool.or_eq_true] at h'
      rcases h' with (h' | h') | h'
      · exact hs _ h'
      · rw [Nat.testBit_two_pow] at h'
        have : e.on = j' := by simpa using h'
        subst this
        exact .edge ho (hl e (List.mem_cons_self ..)) hb
      · exact .trans (.edge ho (hl e (List.mem_cons_self ..)) hb) (hacc _ _ h')
    · exact hs _ h'

theorem depB_spec {i j : Nat} (h : depB ops i j = true) : Dep ops i j := by
  have key : ∀ (l : List Oper) (acc : Array Nat) (k : Nat), acc.size = k → (∀ m, l[m]? = ops[k + m]?) → (∀ k j, (acc.getD k 0).testBit j = true → Dep ops k j) →
      ∀ k j, ((l.foldl (fun acc o => acc.push (o.after.foldl (fun s e => if Region.binds .any e then s ||| 2 ^ e.on ||| acc.getD e.on 0 else s) 0)) acc).getD k 0).testBit j = true → Dep ops k j := by
    intro l
    induction l with
    | nil => intro acc k _ _ hacc; exact hacc
    | cons o l ih =>
      intro acc k hk hl hacc
      simp only [List.foldl_cons]
      have ho : ops[k]? = some o := by simpa using (hl 0).symm
      refine ih _ (k + 1) (by simp [hk]) (fun m => by have := hl (m + 1); simpa [Nat.add_assoc, Nat.add_comm 1 m] using this) ?_
      intro k' j' h'
      rw [Array.getD_eq_getD_getElem?, Array.getElem?_push] at h'
      split at h'
      · rename_i he
        rw [he, hk]
        simp only [Option.getD_some, ← Array.foldl_toList] at h'
        exact testBit_edges ops k o ho acc hacc o.after.toList 0 (fun e he => by simpa using he) (fun j hj => by simp at hj) j' h'
      · exact hacc k' j' (by rw [Array.getD_eq_getD_getElem?]; exact h')
  unfold depB Region.before at h
  rw [← Array.foldl_toList] at h
  exact key ops.toList #[] 0 rfl (fun m => by simp) (fun k j h => by simp at h) i j h

/-- the slots that an operation looks at: its operands', its guard's -/
def slotsOf (ops : Array Oper) (o : Oper) : List Nat :=
  (o.op.operands.toList.filterMap fun | .tmp t => some t | _ => none) ++
  (match o.guard with | none => [] | some (g, _) => match (ops[g]?).bind (·.dst) with | some d => [d] | none => [])

/-- What a region must be like (each slot is written once; who reads a slot and who writes it wait for each other). -/
def drawOk (n : Nat) (ops : Array Oper) : Bool :=
  (List.range ops.size).all fun i =>
    match ops[i]? with
    | none => false
    | some o =>
      (match o.op with | .select _ _ => false | .defer _ => false | _ => true) && dstOk n o.dst &&
      (match o.guard with | none => true | some (g, _) => ((ops[g]?).bind (·.dst)).isSome) &&
      o.after.all (fun e => !Region.binds .any e || Nat.blt e.on i) &&
      (List.range ops.size).all fun j =>
        match ops[j]? with
        | none => false
        | some oj =>
          match oj.dst with
          | none => true
          | some d =>
            (Nat.beq i j || !(o.dst == some d)) &&
            (!(slotsOf ops o).contains d || (bif Nat.blt j i then depB ops i j else bif Nat.blt i j then depB ops j i else true))

theorem drawOk_spec (h : drawOk n ops = true) {i : Nat} {o : Oper} (ho : ops[i]? = some o) :
    ((∀ cs b, o.op ≠ .select cs b) ∧ (∀ c, o.op ≠ .defer c)) ∧ (∀ d, o.dst = some d → d < n) ∧ (∀ g want, o.guard = some (g, want) → ∃ d, (ops[g]?).bind (·.dst) = some d) ∧
    (∀ e ∈ o.after, Region.binds .any e = true → e.on < i) ∧
    ∀ j oj d, ops[j]? = some oj → oj.dst = some d → (i ≠ j → o.dst ≠ some d) ∧ (d ∈ slotsOf ops o → (j < i → Dep ops i j) ∧ (i < j → Dep ops j i)) := by
  have hi : i < ops.size := (Array.getElem?_eq_some_iff.1 ho).1
  have h1 := List.all_eq_true.1 h i (by simpa using hi)
  rw [ho] at h1
  simp only [Bool.and_eq_true] at h1
  obtain ⟨⟨⟨⟨h2, h3⟩, h4⟩, h5⟩, h6⟩ := h1
  refine ⟨⟨fun cs b e => (by rw [e] at h2; cases h2), fun c e => (by rw [e] at h2; cases h2)⟩, dstOk_spec h3, ?_, ?_, ?_⟩
  · intro g want hg
    rw [hg] at h4
    exact Option.isSome_iff_exists.1 h4
  · intro e he hb
    have := Array.all_eq_true'.1 h5 e he
    simpa [hb, Nat.blt_eq] using this
  · intro j oj d hoj hd
    have hj : j < ops.size := (Array.getElem?_eq_some_iff.1 hoj).1
    have h7 := List.all_eq_true.1 h6 j (by simpa using hj)
    rw [hoj] at h7
    simp only [hd, Bool.and_eq_true, Bool.or_eq_true] at h7
    obtain ⟨h8, h9⟩ := h7
    refine ⟨fun hne => ?_, fun hmem => ?_⟩
    · rcases h8 with h8 | h8
      · exact absurd (Nat.eq_of_beq_eq_true h8) hne
      · intro e; rw [e] at h8; simp at h8
    · rcases h9 with h9 | h9
      · simp [hmem] at h9
      · refine ⟨fun hlt => ?_, fun hlt => ?_⟩
        · have : Nat.blt j i = true := by simpa [Nat.blt_eq] using hlt
          rw [this] at h9
          exact depB_spec h9
        · have e1 : Nat.blt j i = false := by
            cases hb : Nat.blt j i with
            | false => rfl
            | true => have := (Nat.blt_eq ▸ hb : j < i); omega
          have e2 : Nat.blt i j = true := by simpa [Nat.blt_eq] using hlt
          rw [e1, e2] at h9
          exact depB_spec h9

/-- what an operation does, in one world -/
def Does (P : Program) (o : Oper) (E : Env) (w : World) (K : Value → World → Prop) : Prop :=
  match (execOp E.ev o).run P w with
  | .ok (.value v) w' => K v w'
  | .ok .skip w' => K undef w'
  | .ok (.enter f args) w' => Ret P f args w' K
  | _ => False

structure DP where
  R : World → World → Prop
  I : World → Prop
  w0 : World
  gens : Nat → Bool
  V : Nat → Value → World → Prop
  wr : Nat → Option ((World → Prop) × (World → Prop))
  /-- the operations that look at a value: none: it is kept to the end -/
  last : Nat → Option (List Nat)

/-- what is known of what is written, when operation k is carried out -/
def DP.use (D : DP) (ops : Array Oper) (k : Nat) (w : World) : Prop :=
  ∀ j p, D.wr j = some p → ((depB ops j k = true ∨ j = k) → p.1 w) ∧ (depB ops k j = true → p.2 w)
/-- what is left behind operation k -/
def DP.eff (D : DP) (k : Nat) (w w' : World) : Prop :=
  ∀ j p, D.wr j = some p → (j = k → p.2 w') ∧ (j ≠ k → (p.1 w → p.1 w') ∧ (p.2 w → p.2 w'))

/-- is operation k's value one that somebody may still look at, behind operation j? -/
def DP.needs (D : DP) (ops : Array Oper) (j k : Nat) : Bool :=
  !Nat.beq k j && !depB ops k j && (match D.last k with | none => true | some us => us.any fun c => !Nat.beq c j && !depB ops j c)
def DP.keeps (D : DP) (ops : Array Oper) (j : Nat) (w w' : World) : Prop := ∀ k u, D.gens k = true → D.needs ops j k = true → D.V k u w → D.V k u w'
def DP.usedBy (D : DP) (k j : Nat) : Bool := match D.last k with | none => true | some us => us.contains j

def withVals (ts : List (Nat × Nat)) (us : Nat → Value) (E : Env) : Env := ts.map (fun t => (t.1, us t.1)) ++ E

def Env.res (E : Env) (dst : Option Tmp) : Option Value → Env
  | none => E.drop dst
  | some v => E.put dst v
/-- what is told of an operation's value: it is exact, or of a kind -/
def DP.tells (D : DP) (k : Nat) (ov : Option Value) (v : Value) (w : World) : Prop := match ov with | none => D.V k v w | some x => v = x

inductive DC (r : Option Nat) (P : Program) (n : Nat) (ds : List Deferred) (ops : Array Oper) (D : DP) (Fin : Env → Prop) : Nat → Env → Prop
  | done {k : Nat} {E : Env} (hk : Nat.beq ops.size k = true) (hf : Fin E) : DC r P n ds ops D Fin k E
  | det {k : Nat} {E : Env} {o : Oper} {v : Value} (ho : ops[k]? = some o) (hg : D.gens k = false) (hn : D.wr k = none) (hw : wantedE ops E o = some true) (hf : opFine n E o = true)
      (hrun : ∀ w, D.R D.w0 w → D.I w → D.use ops k w → (execOp E.ev o).run P w = .ok (.value v) w) (next : DC r P n ds ops D Fin (k + 1) (E.put o.dst v)) : DC r P n ds ops D Fin k E
  | pass {k : Nat} {E : Env} {o : Oper} (ho : ops[k]? = some o) (hg : D.gens k = false) (hn : D.wr k = none) (hw : wantedE ops E o = some false)
      (next : DC r P n ds ops D Fin (k + 1) (E.put o.dst undef)) : DC r P n ds ops D Fin k E
  | gen {k : Nat} {E : Env} {o : Oper} (ov : Option Value) (ts : List (Nat × Nat)) (ho : ops[k]? = some o) (hg : D.gens k = ov.isNone)
      (hts : ts.all (fun t => Nat.blt t.2 k && D.gens t.2 && ((ops[t.2]?).bind (·.dst) == some t.1) && (slotsOf ops o).contains t.1 && D.usedBy t.2 k) = true)
      (hfine : ∀ us, wantedE ops (withVals ts us E) o = some true ∧ opFine n (withVals ts us E) o = true)
      (hob : ∀ us w, D.R D.w0 w → D.I w → D.use ops k w → (∀ t ∈ ts, D.V t.2 (us t.1) w) → Does P o (withVals ts us E) w (fun v w' => D.tells k ov v w' ∧ D.R w w' ∧ D.eff k w w' ∧ D.keeps ops k w w'))
      (next : DC r P n ds ops D Fin (k + 1) (E.res o.dst ov)) : DC r P n ds ops D Fin k E

/-- one step of the chain -/
def DStep (P : Program) (n : Nat) (ops : Array Oper) (D : DP) (k : Nat) (E E' : Env) : Prop :=
  ∃ o, ops[k]? = some o ∧
  ((D.gens k = false ∧ D.wr k = none ∧ ∃ v, E' = E.put o.dst v ∧ ((wantedE ops E o = some true ∧ opFine n E o = true ∧ ∀ w, D.R D.w0 w → D.I w → D.use ops k w → (execOp E.ev o).run P w = .ok (.value v) w) ∨ (wantedE ops E o = some false ∧ v = undef))) ∨
   (∃ ov : Option Value, D.gens k = ov.isNone ∧ E' = E.res o.dst ov ∧ ∃ ts : List (Nat × Nat), (∀ t ∈ ts, t.2 < k ∧ D.gens t.2 = true ∧ (ops[t.2]?).bind (·.dst) = some t.1 ∧ t.1 ∈ slotsOf ops o ∧ D.usedBy t.2 k = true) ∧ (∀ us, wantedE ops (withVals ts us E) o = some true ∧ opFine n (withVals ts us E) o = true) ∧
      ∀ us w, D.R D.w0 w → D.I w → D.use ops k w → (∀ t ∈ ts, D.V t.2 (us t.1) w) → Does P o (withVals ts us E) w (fun v w' => D.tells k ov v w' ∧ D.R w w' ∧ D.eff k w w' ∧ D.keeps ops k w w')))

theorem DC.chain {D : DP} {Fin : Env → Prop} {k : Nat} {E : Env} (h : DC r P n ds ops D Fin k E) :
    ∃ Es : Nat → Env, Es k = E ∧ (∀ j, k ≤ j → j < ops.size → DStep P n ops D j (Es j) (Es (j + 1))) ∧ Fin (Es ops.size) ∧ k ≤ ops.size := by
  have more : ∀ {k : Nat} {E E1 : Env} {o : Oper}, ops[k]? = some o → DStep P n ops D k E E1 → (∃ Es : Nat → Env, Es (k + 1) = E1 ∧ (∀ j, k + 1 ≤ j → j < ops.size → DStep P n ops D j (Es j) (Es (j + 1))) ∧ Fin (Es ops.size) ∧ k + 1 ≤ ops.size) →
      ∃ Es : Nat → Env, Es k = E ∧ (∀ j, k ≤ j → j < ops.size → DStep P n ops D j (Es j) (Es (j + 1))) ∧ Fin (Es ops.size) ∧ k ≤ ops.size := by
    rintro k E E1 o ho hs ⟨Es, h1, h2, h3, h4⟩
    refine ⟨fun j => if j = k then E else Es j, by simp, fun j hj hlt => ?_, ?_, by omega⟩
    · by_cases he : j = k
      · subst he
        have : ¬ j + 1 = j := by omega
        simp only [if_true, this, if_false, h1]
        exact hs
      · have e1 : ¬ j + 1 = k := by omega
        simp only [he, e1, if_false]
        exact h2 j (by omega) hlt
    · have : ¬ ops.size = k := by omega
      simp only [this, if_false]; exact h3
  induction h with
  | @done k E hk hf =>
    have := Nat.eq_of_beq_eq_true hk
    exact ⟨fun _ => E, rfl, fun j h1 h2 => by omega, hf, by omega⟩
  | @det k E o v ho hg hn hw hf hrun _ ih => exact more ho ⟨o, ho, .inl ⟨hg, hn, v, rfl, .inl ⟨hw, hf, hrun⟩⟩⟩ ih
  | @pass k E o ho hg hn hw _ ih => exact more ho ⟨o, ho, .inl ⟨hg, hn, undef, rfl, .inr ⟨hw, rfl⟩⟩⟩ ih
  | @gen k E o ov ts ho hg hts hfine hob _ ih =>
    refine more ho ⟨o, ho, .inr ⟨ov, hg, rfl, ts, fun t ht => ?_, hfine, hob⟩⟩ ih
    have := List.all_eq_true.1 hts t ht
    simp only [Bool.and_eq_true, beq_iff_eq] at this
    exact ⟨by simpa [Nat.blt_eq] using this.1.1.1.1, this.1.1.1.2, this.1.1.2, by simpa using this.1.2, this.2⟩

theorem count_set (l : List Bool) (i : Nat) (h : l[i]? = some false) : (l.set i true).count false + 1 = l.count false := by
  induction l generalizing i with
  | nil => simp at h
  | cons b l ih =>
    cases i with
    | zero => simp at h; subst h; simp
    | succ i =>
      have := ih i (by simpa using h)
      cases b <;> simp <;> omega

/-- where an exact slot's value comes from -/
theorem chain_slot {D : DP} {Es : Nat → Env} (hs : ∀ j, j < ops.size → DStep P n ops D j (Es j) (Es (j + 1))) (t : Nat) :
    ∀ k, k ≤ ops.size → (Es k).has t = true →
      (∃ j o, j < k ∧ ops[j]? = some o ∧ o.dst = some t ∧ D.gens j = false ∧ (Es k).get t = (Es (j + 1)).get t) ∨
      ((∀ j o, j < k → ops[j]? = some o → o.dst ≠ some t) ∧ (Es 0).has t = true ∧ (Es k).get t = (Es 0).get t) := by
  intro k
  induction k with
  | zero => intro _ h; exact .inr ⟨fun j o hj => by omega, h, rfl⟩
  | succ k ih =>
    intro hk hh
    obtain ⟨o, ho, hst⟩ := hs k (by omega)
    by_cases hd : o.dst = some t
    · rcases hst with ⟨hg, _, v, he, _⟩ | ⟨ov, hg, he, _⟩
      · exact .inl ⟨k, o, by omega, ho, hd, hg, rfl⟩
      · cases ov with
        | none =>
          rw [he, hd] at hh
          simp [Env.res, Env.drop, Env.has_without] at hh
        | some v => exact .inl ⟨k, o, by omega, ho, hd, hg, rfl⟩
    · have hsame : (Es k).has t = (Es (k + 1)).has t ∧ (Es k).get t = (Es (k + 1)).get t := by
        have hput : ∀ v, (Es k).has t = ((Es k).put o.dst v).has t ∧ (Es k).get t = ((Es k).put o.dst v).get t := by
          intro v
          cases hdd : o.dst with
          | none => exact ⟨rfl, rfl⟩
          | some d =>
            have hne : d ≠ t := fun e => hd (by rw [hdd, e])
            exact ⟨(Env.has_put_ne _ _ _ _ hne).symm, (Env.get_put_ne _ _ _ _ hne).symm⟩
        rcases hst with ⟨_, _, v, he, _⟩ | ⟨ov, _, he, _⟩
        · rw [he]; exact hput v
        · rw [he]
          cases ov with
          | some v => exact hput v
          | none =>
            unfold Env.res
            cases hdd : o.dst with
            | none => exact ⟨rfl, rfl⟩
            | some d =>
              have hne : d ≠ t := fun e => hd (by rw [hdd, e])
              have : Nat.beq d t = false := nbeq hne
              exact ⟨by simp [Env.drop, Env.has_without, this], (Env.get_without _ _ _ hne).symm⟩
      rw [← hsame.1] at hh
      rcases ih (by omega) hh with ⟨j, oj, hj, hoj, hdj, hgj, hv⟩ | ⟨h1, h2, h3⟩
      · exact .inl ⟨j, oj, by omega, hoj, hdj, hgj, by rw [← hsame.2, hv]⟩
      · refine .inr ⟨fun j oj hj hoj => ?_, h2, by rw [← hsame.2, h3]⟩
        by_cases he : j = k
        · subst he; rw [ho] at hoj; cases hoj; exact hd
        · exact h1 j oj (by omega) hoj

structure DInv (P : Program) (n : Nat) (ds : List Deferred) (ops : Array Oper) (D : DP) (Es : Nat → Env) (a0 : Act) (L : Array Bool) (a : Act) (w : World) : Prop where
  lsize : L.size = ops.size
  size : a.tmps.size = n
  defers : a.defers = ds
  clo : ∀ (i : Nat) (o : Oper), L[i]? = some true → ops[i]? = some o → ∀ e ∈ o.after, Region.binds .any e = true → L[e.on]? = some true
  frame : ∀ (t : Nat), (∀ (i : Nat) (o : Oper), L[i]? = some true → ops[i]? = some o → o.dst ≠ some t) → a.tmps[t]? = a0.tmps[t]?
  vals : ∀ (i : Nat) (o : Oper) (d : Nat), L[i]? = some true → ops[i]? = some o → o.dst = some d → (D.gens i = false → a.tmps[d]? = some ((Es (i + 1)).get d)) ∧ (D.gens i = true → ∃ u, a.tmps[d]? = some u ∧ ((∀ us, D.last i = some us → ∃ c ∈ us, L[c]? ≠ some true) → D.V i u w))
  here : D.R D.w0 w
  inv : D.I w
  wrs : ∀ (j : Nat) (p : (World → Prop) × (World → Prop)), D.wr j = some p → (L[j]? = some true → p.2 w) ∧ (L[j]? ≠ some true → p.1 w)

theorem listed_dep {L : Array Bool} (clo : ∀ (i : Nat) (o : Oper), L[i]? = some true → ops[i]? = some o → ∀ e ∈ o.after, Region.binds .any e = true → L[e.on]? = some true) {i j : Nat} (h : Dep ops i j) : L[i]? = some true → L[j]? = some true := by
  induction h with
  | edge ho he hb => exact fun hl => clo _ _ hl ho _ he hb
  | trans _ _ ih1 ih2 => exact fun hl => ih2 (ih1 hl)

theorem mem_slots_tmp {o : Oper} {t : Nat} (h : Operand.tmp t ∈ o.op.operands) : t ∈ slotsOf ops o := by
  unfold slotsOf
  exact List.mem_append_left _ (List.mem_filterMap.2 ⟨.tmp t, by simpa using h, rfl⟩)
theorem mem_slots_guard {o : Oper} {g d : Nat} {want : Bool} (h : o.guard = some (g, want)) (hd : (ops[g]?).bind (·.dst) = some d) : d ∈ slotsOf ops o := by
  unfold slotsOf
  refine List.mem_append_right _ ?_
  simp [h, hd]

/-- the frame at hand agrees with the chain's at what the operation looks at -/
theorem DInv.agree {D : DP} {Es : Nat → Env} {a0 : Act} {L : Array Bool} {a : Act} {w : World} (hok : drawOk n ops = true) (hs : ∀ j, j < ops.size → DStep P n ops D j (Es j) (Es (j + 1))) (ha0 : At n ds (Es 0) a0)
    (h : DInv P n ds ops D Es a0 L a w) {i : Nat} {o : Oper} (ho : ops[i]? = some o) (hun : L[i]? ≠ some true) (hpre : ∀ e ∈ o.after, Region.binds .any e = true → L[e.on]? = some true) {t : Nat} (ht : t ∈ slotsOf ops o) :
    ((Es i).has t = true → a.tmps[t]? = some ((Es i).get t)) ∧
    (∀ j oj, j < i → ops[j]? = some oj → oj.dst = some t → D.gens j = true → D.usedBy j i = true → ∃ u, a.tmps[t]? = some u ∧ D.V j u w) := by
  have hi : i < ops.size := (Array.getElem?_eq_some_iff.1 ho).1
  obtain ⟨_, _, _, _, hall⟩ := drawOk_spec hok ho
  have hdep : ∀ {x y : Nat}, Dep ops x y → x = i → L[y]? = some true := by
    intro x y hd
    induction hd with
    | @edge x o' e ho' he hb => intro hx; subst hx; rw [ho] at ho'; cases ho'; exact hpre e he hb
    | @trans x y z h1 h2 ih1 _ => intro hx; exact listed_dep h.clo h2 (ih1 hx)
  refine ⟨fun hh => ?_, fun j oj hj hoj hdj hg hus => ?_⟩
  · rcases chain_slot hs t i (Nat.le_of_lt hi) hh with ⟨j, oj, hj, hoj, hdj, hgj, hv⟩ | ⟨h1, h2, h3⟩
    · have hL := hdep (((hall j oj t hoj hdj).2 ht).1 hj) rfl
      rw [hv]; exact (h.vals j oj t hL hoj hdj).1 hgj
    · rw [h3, ← ha0.slot t h2]
      refine h.frame t fun j oj hL hoj hdj => ?_
      rcases Nat.lt_trichotomy j i with hlt | heq | hgt
      · exact h1 j oj hlt hoj hdj
      · subst heq; exact hun hL
      · exact hun (listed_dep h.clo (((hall j oj t hoj hdj).2 ht).2 hgt) hL)
  · have hL := hdep (((hall j oj t hoj hdj).2 ht).1 hj) rfl
    obtain ⟨u, hu, hv⟩ := (h.vals j oj t hL hoj hdj).2 hg
    refine ⟨u, hu, hv fun us he => ⟨i, ?_, hun⟩⟩
    unfold DP.usedBy at hus
    rw [he] at hus
    simpa using hus

theorem DInv.next {D : DP} {Es : Nat → Env} {a0 : Act} {L : Array Bool} {a : Act} {w w' : World} (hok : drawOk n ops = true) (hRt : ∀ x y z, D.R x y → D.R y z → D.R x z)
    (hI : ∀ x y, D.R x y → D.I x → D.I y)
    (h : DInv P n ds ops D Es a0 L a w) {i : Nat} {o : Oper} (ho : ops[i]? = some o) (hun : L[i]? ≠ some true) (hpre : ∀ e ∈ o.after, Region.binds .any e = true → L[e.on]? = some true) {v : Value}
    (hR : D.R w w') (heff : D.eff i w w') (hkeep : D.keeps ops i w w') (hval : (D.gens i = false → ∀ d, o.dst = some d → (Es (i + 1)).get d = v) ∧ (D.gens i = true → D.V i v w')) :
    DInv P n ds ops D Es a0 (L.setIfInBounds i true) (a.put o.dst v) w' := by
  have hi : i < ops.size := (Array.getElem?_eq_some_iff.1 ho).1
  obtain ⟨_, hdn, _, _, hall⟩ := drawOk_spec hok ho
  have hL : ∀ j, (L.setIfInBounds i true)[j]? = some true ↔ j = i ∨ L[j]? = some true := by
    intro j
    by_cases he : i = j
    · subst he; simp [h.lsize, hi]
    · rw [Array.getElem?_setIfInBounds_ne he]
      exact ⟨.inr, fun h => h.resolve_left fun e => he e.symm⟩
  refine ⟨by simp [h.lsize], ?_, ?_, ?_, ?_, ?_, hRt _ _ _ h.here hR, hI _ _ hR h.inv, ?_⟩
  · cases hd : o.dst <;> simp [Act.put, h.size]
  · cases hd : o.dst <;> simp [Act.put, h.defers]
  · intro j oj hj hoj e he hb
    rw [hL] at hj ⊢
    rcases hj with rfl | hj
    · rw [ho] at hoj; cases hoj; exact .inr (hpre e he hb)
    · exact .inr (h.clo j oj hj hoj e he hb)
  · intro t hnw
    have hne : o.dst ≠ some t := hnw i o ((hL i).2 (.inl rfl)) ho
    have := h.frame t fun j oj hj hoj => hnw j oj ((hL j).2 (.inr hj)) hoj
    rw [← this]
    cases hd : o.dst with
    | none => rfl
    | some d =>
      have : d ≠ t := fun e => hne (by rw [hd, e])
      simp only [Act.put]
      exact Array.getElem?_setIfInBounds_ne this
  · intro j oj d hj hoj hdj
    rw [hL] at hj
    by_cases he : j = i
    · subst he
      rw [ho] at hoj; cases hoj
      have hlt : d < n := hdn d hdj
      have hput : (a.put o.dst v).tmps[d]? = some v := by rw [hdj]; simp [Act.put, h.size, hlt]
      exact ⟨fun hg => by rw [hput, hval.1 hg d hdj], fun hg => ⟨v, hput, fun _ => hval.2 hg⟩⟩
    · have hLj := hj.resolve_left he
      have hne : o.dst ≠ some d := (hall j oj d hoj hdj).1 (Ne.symm he)
      have hput : (a.put o.dst v).tmps[d]? = a.tmps[d]? := by
        cases hd : o.dst with
        | none => rfl
        | some d' =>
          have : d' ≠ d := fun e => hne (by rw [hd, e])
          simp only [Act.put]
          exact Array.getElem?_setIfInBounds_ne this
      rw [hput]
      obtain ⟨h1, h2⟩ := h.vals j oj d hLj hoj hdj
      refine ⟨h1, fun hg => ?_⟩
      obtain ⟨u, hu, hv⟩ := h2 hg
      refine ⟨u, hu, fun hlive => hkeep j u hg ?_ (hv fun us he' => ?_)⟩
      · unfold DP.needs
        have n1 : Nat.beq j i = false := nbeq he
        have n2 : depB ops j i = false := by
          cases hb : depB ops j i with
          | false => rfl
          | true => exact absurd (listed_dep h.clo (depB_spec hb) hLj) hun
        rw [n1, n2]
        cases hl : D.last j with
        | none => rfl
        | some us =>
          obtain ⟨c, hc, hcl⟩ := hlive us hl
          simp only [Bool.not_false, Bool.true_and, List.any_eq_true, Bool.and_eq_true, Bool.not_eq_true']
          have hci : c ≠ i := fun e => hcl ((hL c).2 (.inl e))
          refine ⟨c, hc, nbeq hci, ?_⟩
          cases hb : depB ops i c with
          | false => rfl
          | true =>
            exfalso
            refine hcl ((hL c).2 (.inr ?_))
            have hdep : ∀ {x y : Nat}, Dep ops x y → x = i → L[y]? = some true := by
              intro x y hd
              induction hd with
              | @edge x o' e ho' he hb' => intro hx; subst hx; rw [ho] at ho'; cases ho'; exact hpre e he hb'
              | @trans x y z h1 h2 ih1 _ => intro hx; exact listed_dep h.clo h2 (ih1 hx)
            exact hdep (depB_spec hb) rfl
      · obtain ⟨c, hc, hcl⟩ := hlive us he'
        exact ⟨c, hc, fun hh => hcl ((hL c).2 (.inr hh))⟩
  · intro j p hp
    obtain ⟨e1, e2⟩ := heff j p hp
    obtain ⟨w1, w2⟩ := h.wrs j p hp
    refine ⟨fun hj => ?_, fun hj => ?_⟩
    · rw [hL] at hj
      by_cases he : j = i
      · exact e1 he
      · exact (e2 he).2 (w1 (hj.resolve_left he))
    · have he : j ≠ i := fun e => hj ((hL j).2 (.inl e))
      exact (e2 he).1 (w2 fun hl => hj ((hL j).2 (.inr hl)))

/-- **A region that draws its order, in the text's order.** -/
theorem W.draw {id : Nat} {w : World} {E : Env} (D : DP) (hw0 : D.w0 = w) (hm : P.follows .mixedOrders = true) (hok : drawOk n ops = true)
    (hRd : ∀ m, D.R w { w with drawn := m }) (hRr : ∀ x, D.R x x) (hRt : ∀ x y z, D.R x y → D.R y z → D.R x z)
    (hI : ∀ x y, D.R x y → D.I x → D.I y) (hI0 : D.I w)
    (hwr : ∀ j p, D.wr j = some p → ∀ m, p.1 { w with drawn := m })
    (h : DC r P n ds ops D (fun E' => ∀ a w', At n ds E' a → D.R w w' → D.I w' → (∀ k o d, D.gens k = true → D.last k = none → ops[k]? = some o → o.dst = some d → ∃ u, a.tmps[d]? = some u ∧ D.V k u w') → (∀ j p, j < ops.size → D.wr j = some p → p.2 w') → Q .normal a w') 0 E) :
    W r P n ds (.region id ops true) E Q w := by
  subst hw0
  intro a0 ha0
  refine wpIn_region_any hm ?_
  obtain ⟨Es, h0, hst, hfin, _⟩ := h.chain
  have hs : ∀ j, j < ops.size → DStep P n ops D j (Es j) (Es (j + 1)) := fun j hj => hst j (Nat.zero_le _) hj
  subst h0
  have key : ∀ (fuel : Nat) (L : Array Bool) (a : Act) (w' : World), DInv P n ds ops D Es a0 L a w' → L.toList.count false ≤ fuel → wpAnyIn (FW r) 0 P .any ops Q fuel L a w' := by
    intro fuel
    have whole : ∀ (L : Array Bool) (a : Act) (w' : World), DInv P n ds ops D Es a0 L a w' → Region.ready .any ops L = [] → Q .normal a w' := by
      intro L a w' hinv hr
      have hall : ∀ i, i < ops.size → L[i]? = some true := by
        intro i
        induction i using Nat.strongRecOn with
        | _ i ih =>
          intro hi
          have hiL : i < L.size := by rw [hinv.lsize]; exact hi
          by_cases hl : L[i]? = some true
          · exact hl
          · exfalso
            have hlf : L[i]? = some false := by
              rw [Array.getElem?_eq_getElem hiL] at hl ⊢
              cases hb : L[i] with
              | false => rfl
              | true => rw [hb] at hl; exact absurd rfl hl
            have hoi : ops[i]? = some ops[i] := Array.getElem?_eq_getElem hi
            have hmem : i ∈ Region.ready .any ops L := by
              unfold Region.ready
              refine List.mem_filter.2 ⟨by simpa using hi, ?_⟩
              simp only [Array.getD_eq_getD_getElem?, hlf, hoi, Option.getD_some, Option.map_some, Bool.not_false, Bool.true_and]
              refine Array.all_eq_true'.2 fun e he => ?_
              cases hb : Region.binds .any e with
              | false => rfl
              | true =>
                have hlt := (drawOk_spec hok hoi).2.2.2.1 e he hb
                rw [ih e.on hlt (by omega)]; rfl
            rw [hr] at hmem; cases hmem
      refine hfin a w' ⟨hinv.size, hinv.defers, fun t ht => ?_⟩ hinv.here hinv.inv ?_ ?_
      · rcases chain_slot hs t ops.size (Nat.le_refl _) ht with ⟨j, oj, hj, hoj, hdj, hgj, hv⟩ | ⟨h1, h2, h3⟩
        · rw [hv]; exact (hinv.vals j oj t (hall j hj) hoj hdj).1 hgj
        · rw [h3, ← ha0.slot t h2]
          exact hinv.frame t fun j oj _ hoj => h1 j oj (Array.getElem?_eq_some_iff.1 hoj).1 hoj
      · intro k o d hg hnl hok' hd
        obtain ⟨u, hu, hv⟩ := (hinv.vals k o d (hall k (Array.getElem?_eq_some_iff.1 hok').1) hok' hd).2 hg
        exact ⟨u, hu, hv fun us he => by rw [hnl] at he; cases he⟩
      · intro j p hj hp
        exact (hinv.wrs j p hp).1 (hall j hj)
    induction fuel with
    | zero =>
      intro L a w' hinv hc
      have hr : Region.ready .any ops L = [] := by
        unfold Region.ready
        refine List.filter_eq_nil_iff.2 fun i hi => ?_
        have hi' : i < L.size := by rw [hinv.lsize]; simpa using hi
        have : L[i]? = some true := by
          rw [Array.getElem?_eq_getElem hi']
          have hne : false ∉ L.toList := List.count_eq_zero.1 (by omega)
          cases hb : L[i] with
          | true => rfl
          | false => exact absurd (by rw [← hb]; simp) hne
        simp [Array.getD_eq_getD_getElem?, this]
      exact ⟨hr, whole L a w' hinv hr⟩
    | succ fuel ih =>
      intro L a w' hinv hc
      refine ⟨whole L a w' hinv, fun i hi => ?_⟩
      obtain ⟨hi1, hi2⟩ := List.mem_filter.1 hi
      have hi1 : i < ops.size := by simpa using hi1
      obtain ⟨o, ho, hstep⟩ := hs i hi1
      simp only [Bool.and_eq_true, Bool.not_eq_true'] at hi2
      obtain ⟨hun', hpre'⟩ := hi2
      have hiL : i < L.size := by rw [hinv.lsize]; exact hi1
      have hunF : L[i]? = some false := by
        rw [Array.getElem?_eq_getElem hiL]
        rw [Array.getD_eq_getD_getElem?, Array.getElem?_eq_getElem hiL] at hun'
        exact congrArg some hun'
      have hun : L[i]? ≠ some true := by rw [hunF]; simp
      have hpre : ∀ e ∈ o.after, Region.binds .any e = true → L[e.on]? = some true := by
        intro e he hb
        rw [ho] at hpre'
        rw [Option.map_some, Option.getD_some] at hpre'
        have := Array.all_eq_true'.1 hpre' e he
        simp only [hb, Bool.not_true, Bool.false_or, Array.getD_eq_getD_getElem?] at this
        cases hq : L[e.on]? with
        | none => rw [hq] at this; cases this
        | some b => rw [hq] at this; rw [show b = true from this]
      obtain ⟨⟨hsel, hdef⟩, hdn, hguard, _, _⟩ := drawOk_spec hok ho
      have hcount : (L.setIfInBounds i true).toList.count false ≤ fuel := by
        have := count_set L.toList i (by simpa using hunF)
        rw [Array.toList_setIfInBounds]
        omega
      have huse : D.use ops i w' := by
        intro j p hp
        obtain ⟨w1, w2⟩ := hinv.wrs j p hp
        refine ⟨fun hd => w2 fun hl => ?_, fun hd => w1 ?_⟩
        · rcases hd with hd | rfl
          · exact hun (listed_dep hinv.clo (depB_spec hd) hl)
          · exact hun hl
        · have hdep : ∀ {x y : Nat}, Dep ops x y → x = i → L[y]? = some true := by
            intro x y hd
            induction hd with
            | @edge x o' e ho' he hb => intro hx; subst hx; rw [ho] at ho'; cases ho'; exact hpre e he hb
            | @trans x y z h1 h2 ih1 _ => intro hx; exact listed_dep hinv.clo h2 (ih1 hx)
          exact hdep (depB_spec hd) rfl
      have agree := fun {t : Nat} (ht : t ∈ slotsOf ops o) => hinv.agree hok hs ha0 ho hun hpre ht
      have sem : o.semAt r a.eval = execOp a.eval o := Oper.semAt_eq _ _ _ hdef
      -- the frame agrees, at what the operation looks at, with an environment
      have byEnv : ∀ (E' : Env), (∀ t ∈ slotsOf ops o, E'.has t = true → a.tmps[t]? = some (E'.get t)) → ∀ b, wantedE ops E' o = some b →
          Region.wanted o (yielded ops a.tmps) = b ∧ (opFine n E' o = true → execOp a.eval o = execOp E'.ev o) := by
        intro E' hag b hw
        refine ⟨?_, fun hf => ?_⟩
        · unfold wantedE at hw
          unfold Region.wanted
          cases hg : o.guard with
          | none => rw [hg] at hw; simpa using hw
          | some jw =>
            obtain ⟨j, want⟩ := jw
            rw [hg] at hw
            simp only at hw ⊢
            cases hd : (ops[j]?).bind (·.dst) with
            | none => rw [hd] at hw; cases hw
            | some d =>
              rw [hd] at hw
              simp only at hw
              cases hh : E'.has d with
              | false => rw [hh] at hw; cases hw
              | true =>
                rw [hh] at hw
                have hsl := hag d (mem_slots_guard hg hd) hh
                simp only [cond_true] at hw
                unfold yielded
                rw [hd, Option.bind_some, hsl]
                cases hv : E'.get d with
                | bool b' => rw [hv] at hw; simp only [Option.some.injEq] at hw; subst hw; simp
                | _ => rw [hv] at hw; cases hw
        · unfold opFine at hf
          simp only [Bool.and_eq_true] at hf
          refine execOp_congr o hsel fun x hx => ?_
          have hcov := Array.all_eq_true'.1 hf.1.2 x hx
          cases x with
          | tmp t =>
            have := hag t (mem_slots_tmp hx) hcov
            simp [Act.eval, Env.ev, Array.getD_eq_getD_getElem?, this]
          | const v => rfl
          | global g => rfl
          | func f => rfl
      unfold wpOpIn
      rw [ho]
      simp only
      rcases hstep with ⟨hg, hnw, v, hE, hv⟩ | ⟨ov, hg, hE, ts, hts, hfine, hob⟩
      · have hagE : ∀ t ∈ slotsOf ops o, (Es i).has t = true → a.tmps[t]? = some ((Es i).get t) := fun t ht hh => (agree ht).1 hh
        have hvalE : ∀ d, o.dst = some d → (Es (i + 1)).get d = v := by
          intro d hd; rw [hE, hd]; exact Env.get_put_same _ _ _
        have heff : D.eff i w' w' := by
          intro j p hp
          exact ⟨fun e => (by subst e; rw [hnw] at hp; cases hp), fun _ => ⟨fun h => h, fun h => h⟩⟩
        have hnext := hinv.next hok hRt hI ho hun hpre (v := v) (hRr w') heff (fun _ _ _ _ h => h) ⟨fun _ => hvalE, fun hg' => (by rw [hg] at hg'; cases hg')⟩
        rcases hv with ⟨hw, hf, hrun⟩ | ⟨hw, rfl⟩
        · obtain ⟨b1, b2⟩ := byEnv (Es i) hagE true hw
          rw [if_pos b1]
          refine ⟨about_FW, ?_⟩
          rw [show (FW r).round = r from rfl, sem, b2 hf, hrun w' hinv.here hinv.inv huse]
          exact ih _ _ _ hnext hcount
        · obtain ⟨b1, _⟩ := byEnv (Es i) hagE false hw
          rw [if_neg (by rw [b1]; simp)]
          exact ⟨about_FW, ih _ _ _ hnext hcount⟩
      · -- the values of slots that are not exact
        let us : Nat → Value := fun t => (a.tmps[t]?).getD undef
        have htsV : ∀ t ∈ ts, t.1 ∈ slotsOf ops o → a.tmps[t.1]? = some (us t.1) ∧ D.V t.2 (us t.1) w' := by
          intro t ht hsl
          obtain ⟨h1, h2, h3, h4, h5⟩ := hts t ht
          obtain ⟨oj, hoj, hdj⟩ := Option.bind_eq_some_iff.1 h3
          obtain ⟨u, hu, hvu⟩ := (agree hsl).2 t.2 oj h1 hoj hdj h2 h5
          have : us t.1 = u := by simp [us, hu]
          rw [this]; exact ⟨hu, hvu⟩
        have hag : ∀ t ∈ slotsOf ops o, (withVals ts us (Es i)).has t = true → a.tmps[t]? = some ((withVals ts us (Es i)).get t) := by
          intro t ht
          have base := (agree ht).1
          have gen : ∀ (l : List (Nat × Nat)), (∀ x ∈ l, x ∈ ts) → (withVals l us (Es i)).has t = true → a.tmps[t]? = some ((withVals l us (Es i)).get t) := by
            intro l
            induction l with
            | nil => intro _ hh; exact base hh
            | cons x l ih =>
              intro hl hh
              by_cases he : x.1 = t
              · have hx := hl x (List.mem_cons_self ..)
                have hv := (htsV x hx (hts x hx).2.2.2.1).1
                subst he
                have hb : Nat.beq x.1 x.1 = true := Nat.beq_refl _
                simp only [withVals, List.map_cons, List.cons_append, Env.get, hb, cond_true]
                exact hv
              · have hb : Nat.beq x.1 t = false := nbeq he
                simp only [withVals, List.map_cons, List.cons_append, Env.has, Env.get, hb, cond_false] at hh ⊢
                exact ih (fun y hy => hl y (List.mem_cons_of_mem _ hy)) hh
          exact gen ts (fun _ h => h)
        obtain ⟨hw, hf⟩ := hfine us
        obtain ⟨b1, b2⟩ := byEnv _ hag true hw
        have hdo := hob us w' hinv.here hinv.inv huse fun t ht => (htsV t ht (hts t ht).2.2.2.1).2
        have cont : ∀ v w2, (D.tells i ov v w2 ∧ D.R w' w2 ∧ D.eff i w' w2 ∧ D.keeps ops i w' w2) → wpAnyIn (FW r) 0 P .any ops Q fuel (L.setIfInBounds i true) (a.put o.dst v) w2 := by
          rintro v w2 ⟨h1, h2, h3, h4⟩
          refine ih _ _ _ (hinv.next hok hRt hI ho hun hpre h2 h3 h4 ?_) hcount
          cases ov with
          | none => exact ⟨fun hg' => (by rw [hg] at hg'; cases hg'), fun _ => h1⟩
          | some x =>
            have hx : v = x := h1
            refine ⟨fun _ d hd => ?_, fun hg' => (by rw [hg] at hg'; cases hg')⟩
            rw [hE, hd, hx]; exact Env.get_put_same _ _ _
        rw [if_pos b1]
        refine ⟨about_FW, ?_⟩
        rw [show (FW r).round = r from rfl, sem, b2 hf]
        unfold Does at hdo
        split at hdo
        · rename_i v w2 hrun; rw [hrun]; exact cont _ _ hdo
        · rename_i w2 hrun; rw [hrun]; exact cont _ _ hdo
        · rename_i f args w2 hrun
          rw [hrun]
          refine ⟨fun h => by simp [FW] at h, (callsIn_FW r).2 (Calls.mono hdo ?_)⟩
          rintro e w3 ⟨v, rfl, hk⟩
          exact cont _ _ hk
        · exact hdo.elim
  refine key _ _ _ _ ⟨by simp, ha0.size, ha0.defers, ?_, fun _ _ => rfl, ?_, hRd _, hI _ _ (hRd _) hI0, ?_⟩ ?_
  · intro i o hl; simp [Array.getElem?_replicate] at hl
  · intro i o d hl; simp [Array.getElem?_replicate] at hl
  · intro j p hp
    exact ⟨fun hl => by simp [Array.getElem?_replicate] at hl, fun _ => hwr j p hp _⟩
  · simp
end
end Go.Sat
end
section
namespace Go.Sat
open Go

section
variable {r : Option Nat} {P : Program} {n : Nat} {ds : List Deferred} {ops : Array Oper} {Q : Exit → Act → World → Prop} {w : World} {E : Env}

theorem Does.value {o : Oper} {K : Value → World → Prop} {v : Value} {w' : World} (h : (execOp E.ev o).run P w = .ok (.value v) w') (hk : K v w') : Does P o E w K := by
  unfold Does; rw [h]; exact hk
theorem Does.skip {o : Oper} {K : Value → World → Prop} {w' : World} (h : (execOp E.ev o).run P w = .ok .skip w') (hk : K undef w') : Does P o E w K := by
  unfold Does; rw [h]; exact hk
theorem Does.call {o : Oper} {K : Value → World → Prop} {f : FuncId} {args : Array Value} (h : pureRun P (execOp E.ev o) = some (.enter f args)) (hk : Ret P f args w K) : Does P o E w K := by
  unfold Does; rw [pureRun_run h w]; exact hk
theorem Does.mono {o : Oper} {K K' : Value → World → Prop} (h : Does P o E w K) (hk : ∀ v w', K v w' → K' v w') : Does P o E w K' := by
  unfold Does at *
  split at h
  · exact hk _ _ h
  · exact hk _ _ h
  · exact Ret.mono h hk
  · exact h.elim

/-- in a plain region -/
theorem WR.does {k : Nat} {op : Op} {ty : TypeId} {dst : Option Tmp} {K : Value → World → Prop} (hl : look ops n k E = some (op, ty, dst)) (hd : Does P (mkO op ty) E w K)
    (next : ∀ v w', K v w' → WR r P n ds ops (k + 1) (E.put dst v) Q w') : WR r P n ds ops k E Q w := by
  unfold Does at hd
  split at hd
  · rename_i v w' hrun; exact WR.run hl hrun (next _ _ hd)
  · rename_i w' hrun; exact WR.runSkip hl hrun (next _ _ hd)
  · rename_i f args w' hrun
    obtain ⟨o, ho, hw, hf, rfl, rfl, rfl⟩ := look_spec hl
    intro a ha
    rw [drop_cons ho]
    obtain ⟨h1, h2⟩ := opFine_spec (r := r) ha hf
    unfold wpListIn
    rw [if_pos (wantedE_spec ha hw)]
    refine ⟨about_FW, ?_⟩
    rw [show (FW r).round = r from rfl, h1, show (execOp E.ev o).run P w = _ from hrun]
    refine ⟨fun h => by simp [FW] at h, (callsIn_FW r).2 (Calls.mono hd ?_)⟩
    rintro e w2 ⟨v, rfl, hk⟩
    exact next v w2 hk _ (ha.put _ _ h2)
  · exact hd.elim

/-! ### the operations -/
theorem Does.alloc {T ty : TypeId} {zs : List Value} {K : Value → World → Prop} (hz : zeroOf P T = some zs)
    (hk : ∀ b w', w.heap.size = b → Grow w w' → Blk w' b zs T → K (.pointer (some ⟨b, 0, none⟩)) w') : Does P (mkO (.alloc T) ty) E w K := by
  obtain ⟨z, rfl, hr⟩ := run_zero (w := w) hz
  have hB : Blk { w with heap := w.heap.push (.cells z.cells T (0, 0)) } w.heap.size z.cells.toList T := by simp [Blk]
  refine Does.value (v := .pointer (some ⟨w.heap.size, 0, none⟩)) (w' := { w with heap := w.heap.push (.cells z.cells T (0, 0)) }) (run_v ?_) (hk _ _ rfl (Grow.push _ _) hB)
  simp [Instr.alloc, Sem.run_bind, hr, newVar, newRow, newObj, Sem.run]

theorem Does.box {T ty : TypeId} {x : Operand} {K : Value → World → Prop}
    (hk : ∀ b w', w.heap.size = b → Grow w w' → Blk w' b (E.ev x).cells.toList T → K (.pointer (some ⟨b, 0, none⟩)) w') : Does P (mkO (.box T x) ty) E w K := by
  have hB : Blk { w with heap := w.heap.push (.cells (E.ev x).cells T (0, 0)) } w.heap.size (E.ev x).cells.toList T := by simp [Blk]
  refine Does.value (v := .pointer (some ⟨w.heap.size, 0, none⟩)) (w' := { w with heap := w.heap.push (.cells (E.ev x).cells T (0, 0)) }) (run_v ?_) (hk _ _ rfl (Grow.push _ _) hB)
  simp [Instr.box, newVar, newRow, newObj, Sem.run]

theorem Does.load {T ty : TypeId} {x : Operand} {ad : Addr} {v : Value} {K : Value → World → Prop} (hx : E.ev x = .pointer (some ad)) (hv : (loadVar T ad).run P w = .ok v w) (hk : K v w) : Does P (mkO (.load T x) ty) E w K := by
  refine Does.value (v := v) (w' := w) (run_v ?_) hk
  show (Instr.loadAt T (E.ev x)).run P w = _
  rw [hx]
  simpa [Instr.loadAt, Instr.sureAddr] using hv

theorem Does.store {T T0 ty : TypeId} {x y : Operand} {b o : Nat} {cs : List Value} {K : Value → World → Prop} (hx : E.ev x = .pointer (some ⟨b, o, none⟩))
    (hB : Blk w b cs T0) (vs : List Value) (hv : (E.ev y).cells.toList = vs) (hs : (P.info? T).map (·.size) = some vs.length) (hlen : o + vs.length ≤ cs.length) (hone : vs.all one' = true)
    (hk : ∀ w', Ext1 b w w' → w'.heap.size = w.heap.size → Blk w' b (splice cs o vs) T0 → K undef w') : Does P (mkO (.store T x y) ty) E w K := by
  subst hv
  obtain ⟨w', hr, hB', hE, hz⟩ := run_storeCells (P := P) (E.ev y).cells.toList o 0 cs w hB (by simpa using hlen) hone
  refine Does.skip (w' := w') (run_u ?_) (hk w' hE hz (by simpa using hB'))
  show (Instr.storeAt T (E.ev x) (E.ev y)).run P w = _
  rw [hx]
  cases hi : P.info? T with
  | none => simp [hi] at hs
  | some inf =>
    have hsz : inf.size = (E.ev y).cells.size := by simpa [hi] using hs
    simp [Instr.storeAt, Instr.sureAddr, storeVar, sizeOf, typeInfo, program, Sem.run, hi, hsz, hr]

/-- a slice written out: '[]T{x, ..}' -/
def fillOf (P : Program) (e : TypeId) (len : Nat) (parts : List (Nat × Value)) : Option (Array Value) :=
  match P.info? e with
  | none => none
  | some i => if len * i.size > 2 ^ 24 then none else
    if len * i.size = 0 then Instr.fill (fun j => some (j * i.size, i.size)) #[] parts else
    match i.zero with
    | none => none
    | some z => Instr.fill (fun j => some (j * i.size, i.size)) ((Array.range (len * i.size)).map (z.cells[· % z.cells.size]!)) parts
theorem Does.buildSlice {t ty e : TypeId} {len : Nat} {parts : Array (Nat × Operand)} {cs : List Value} {K : Value → World → Prop} (ht : P.underlying t = some (.slice e))
    (hf : fillOf P e len (parts.map fun (i, x) => (i, E.ev x)).toList = some cs.toArray)
    (hk : ∀ b w', w.heap.size = b → Grow w w' → Blk w' b cs e → K (.slice (some ⟨b, 0, none⟩) len len) w') : Does P (mkO (.buildSlice t len parts) ty) E w K := by
  have hB : Blk { w with heap := w.heap.push (.cells cs.toArray e (0, 0)) } w.heap.size cs e := by simp [Blk]
  refine Does.value (v := .slice (some ⟨w.heap.size, 0, none⟩) len len) (w' := { w with heap := w.heap.push (.cells cs.toArray e (0, 0)) }) (run_v ?_) (hk _ _ rfl (Grow.push _ _) hB)
  show (Instr.buildSlice t len (parts.map fun (i, x) => (i, E.ev x))).run P w = _
  unfold fillOf at hf
  cases hi : P.info? e with
  | none => simp [hi] at hf
  | some i =>
    rw [hi] at hf
    simp only at hf
    unfold Instr.buildSlice
    simp only [Sem.run_bind, run_underlying ht, Result.andThen_ok, sizeOf, typeInfo, program, Sem.run, hi, pure]
    by_cases h1 : len * i.size > 2 ^ 24
    · simp [h1] at hf
    · simp only [h1, if_false] at hf ⊢
      by_cases h2 : len * i.size = 0
      · simp only [h2, if_true] at hf ⊢
        simp only [Array.toList_map] at hf
        have hr0 : Array.range 0 = #[] := by apply Array.ext <;> simp
        simp [bind, Sem.bind, hr0, hf, newRow, newObj, Sem.run]
        rfl
      · simp only [h2, if_false] at hf ⊢
        cases hz : i.zero with
        | none => simp [hz] at hf
        | some z =>
          rw [hz] at hf
          simp only at hf
          simp only [zeroValue, Sem.run_bind, typeInfo, program, Sem.run, hi, hz, Result.andThen_ok, pure]
          rw [hf]
          simp [newRow, newObj, Sem.run]

/-- 'len' cells of nought in a new row -/
theorem Does.make {t ty e : TypeId} {l c : Operand} {kl kc : IntKind} {L C by_ : Nat} {z : Value} {K : Value → World → Prop} (ht : P.underlying t = some (.slice e))
    (hi : (P.info? e).map (fun i => (i.zero, i.size)) = some (some z, 1)) (hby : (P.info? e).map (·.bytes) = some by_) (hz : z.cells = #[z]) (hl : E.ev l = .int kl (L : Int)) (hc : E.ev c = .int kc (C : Int))
    (hLC : L ≤ C) (hb : by_ * C ≤ 140737488355328) (hm : C ≤ 4611686018427387904)
    (hk : ∀ b w', w.heap.size = b → Grow w w' → Blk w' b (List.replicate C z) e → K (.slice (some ⟨b, 0, none⟩) L C) w') : Does P (mkO (.makeSlice t l c) ty) E w K := by
  cases hinf : P.info? e with
  | none => simp [hinf] at hi
  | some inf =>
    simp only [hinf, Option.map_some, Option.some.injEq, Prod.mk.injEq] at hi hby
    obtain ⟨hz0, hs⟩ := hi
    have w1 : IntKind.i64.wrap (L : Int) = L := wrap_fits ⟨by omega, by omega⟩
    have w2 : IntKind.i64.wrap (C : Int) = C := wrap_fits ⟨by omega, by omega⟩
    have hcells : (Array.range C).map (fun x => (#[z] : Array Value)[x % (#[z] : Array Value).size]!) = (List.replicate C z).toArray := by
      apply Array.ext
      · simp
      · intro i h1 h2
        simp [Nat.mod_one]
    have hB : Blk { w with heap := w.heap.push (.cells (List.replicate C z).toArray e (0, 0)) } w.heap.size (List.replicate C z) e := by simp [Blk]
    refine Does.value (v := .slice (some ⟨w.heap.size, 0, none⟩) L C) (w' := { w with heap := w.heap.push (.cells (List.replicate C z).toArray e (0, 0)) }) (run_v ?_) (hk _ _ rfl (Grow.push _ _) hB)
    show (Instr.makeSlice t (E.ev l) (E.ev c)).run P w = _
    rw [hl, hc]
    have c1 : ¬ ((inf.bytes : Int) * (C : Int) > 2 ^ 48) := by
      have h1 : ((inf.bytes * C : Nat) : Int) ≤ 140737488355328 := by rw [hby]; exact Int.ofNat_le.2 hb
      rw [Int.natCast_mul] at h1
      have h2 : (2 : Int) ^ 48 = 281474976710656 := by decide
      rw [h2]
      omega
    have c2 : ¬ ((C : Int) < 0) := by omega
    have c3 : ¬ ((L : Int) < 0) := by omega
    have c4 : ¬ ((L : Int) > C) := by omega
    have c5 : ¬ (C * inf.bytes > roomBytes) := by
      have h2 : roomBytes = 140737488355328 := by decide
      rw [h2, hby, Nat.mul_comm]
      omega
    unfold Instr.makeSlice
    simp only [Sem.run_bind, run_underlying ht, Result.andThen_ok, asInt, asIntOf, typeInfo, program, Sem.run, hinf, pure, w1, w2, c1, c2, c3, c4, sizeOf, hs, askRoom, Int.toNat_natCast, c5,
      decide_false, Bool.or_self, Bool.false_eq_true, if_false, Nat.mul_one]
    by_cases hC : C = 0
    · subst hC
      obtain rfl : L = 0 := by omega
      have hr0 : Array.range 0 = #[] := by apply Array.ext <;> simp
      simp [newRow, newObj, Sem.run, hr0, bind, Sem.bind]
      rfl
    · simp only [hC, if_false, zeroValue, Sem.run_bind, typeInfo, program, Sem.run, hinf, hz0, Result.andThen_ok, pure, hz]
      rw [hcells]
      simp [newRow, newObj, Sem.run]

/-- a row by its own facts: the element type's line of the table -/
def rowT (P : Program) (e : TypeId) : Option (Value × Nat × Nat) := match P.info? e with | some i => (match i.zero with | some z => bif Nat.beq z.cells.size i.size then some (z, i.size, i.bytes) else none | none => none) | none => none
theorem rowT_spec {e : TypeId} {z : Value} {size bytes : Nat} (h : rowT P e = some (z, size, bytes)) : ∃ i, P.info? e = some i ∧ i.zero = some z ∧ i.size = size ∧ i.bytes = bytes ∧ z.cells.size = size := by
  unfold rowT at h
  split at h
  · rename_i i hi
    split at h
    · rename_i z' hz
      cases hb : Nat.beq z'.cells.size i.size with
      | false => simp [hb] at h
      | true =>
        simp only [hb, cond_true, Option.some.injEq, Prod.mk.injEq] at h
        obtain ⟨rfl, rfl, rfl⟩ := h
        exact ⟨i, hi, hz, rfl, rfl, Nat.eq_of_beq_eq_true hb⟩
    · cases h
  · cases h

theorem one'_iff (v : Value) : one' v = v.oneCell' := by cases v <;> rfl

/-- append to a row of the call's own -/
theorem Does.append {t ty e : TypeId} {x y : Operand} {z : Value} {size bytes base k m c : Nat} {v : Value} {xs news : List Value} {a : Option Addr} {K : Value → World → Prop}
    (ht : P.underlying t = some (.slice e)) (hi : rowT P e = some (z, size, bytes)) (hsz : 0 < size) (hx : E.ev x = v) (hown : w.ownsRow base e size v k xs)
    (hy : E.ev y = .slice a m c) (hR : Row w a news) (hl : news.length = m * size) (hnil : a = none → c = 0) (h1 : news.all one' = true)
    (hb : (k + m) * bytes ≤ 140737488355328) (hm : k + m ≤ 4611686018427387904) (hbase : base ≤ w.heap.size)
    (hk : ∀ v' w', Ext (fun q => some q = v.ownBlock) w w' → w'.ownsRow base e size v' (k + m) (xs ++ news) → K v' w') :
    Does P (mkO (.call { callee := .builtin .append, args := #[x, y], argTypes := #[t, t] }) ty) E w K := by
  obtain ⟨i, hinf, hz, hs, hby, hzs⟩ := rowT_spec hi
  have hrun : ∀ {v' : Value} {w' : World}, (Builtin.append_ #[t, t] ty #[v, .slice a m c]).run P w = .ok v' w' →
      (execOp E.ev (mkO (.call { callee := .builtin .append, args := #[x, y], argTypes := #[t, t] }) ty)).run P w = .ok (.value v') w' := by
    intro v' w' h
    simp [execOp, mkO, resolve, invoke, builtin, hx, hy, h]
  cases a with
  | none =>
    have : news = [] := by
      cases news with
      | nil => rfl
      | cons u us => obtain ⟨ad, e, _⟩ := hR 0 u rfl; cases e
    subst this
    have hm0 : m = 0 := by
      have h0 : m * size = 0 := by simpa using hl.symm
      rcases Nat.mul_eq_zero.1 h0 with hl | hl
      · exact hl
      · omega
    subst hm0
    rw [hnil rfl] at hrun
    refine Does.value (hrun (run_append_owned_none (P := P) (w := w) base t ty e i size ht hinf v k xs hown)) (hk _ _ (Ext.refl _ _) (by simpa using hown))
  | some ad =>
    obtain ⟨v', w', h, ho, hg, _⟩ := run_append_own (P := P) (w := w) base t ty e i z size bytes ht hinf hz hs hby hzs hsz v k xs hown ad m c news hl
      (fun j u hj => by obtain ⟨ad', e', h⟩ := hR j u hj; cases e'; exact h) (fun u hu => by rw [← one'_iff]; exact List.all_eq_true.1 h1 u hu) (by unfold maxLen; omega) hb hbase
    exact Does.value (hrun h) (hk _ _ (Ext.of_grownBy hg) ho)

/-- copy into a block that is known whole -/
theorem Does.copy {dT sT ty e : TypeId} {x y : Operand} {dp sp : Option Addr} {dLen dCap sLen sCap g off : Nat} {cur cs : List Value} {T : TypeId} {K : Value → World → Prop}
    (hu : P.underlying dT = some (.slice e)) (hsz : (P.info? e).map (·.size) = some 1) (hd : E.ev x = .slice dp dLen dCap) (hs : E.ev y = .slice sp sLen sCap) (hB : Blk w g cur T) (hn : cs.length = Nat.min sLen dLen)
    (hpos : 0 < cs.length → dp = some ⟨g, off, none⟩) (hR : Row w sp cs) (hfit : off + cs.length ≤ cur.length) (h1 : cs.all one' = true)
    (hk : ∀ w', Ext1 g w w' → w'.heap.size = w.heap.size → Blk w' g (splice cur off cs) T → K (.int .i64 cs.length) w') :
    Does P (mkO (.call { callee := .builtin .copy, args := #[x, y], argTypes := #[dT, sT] }) ty) E w K := by
  cases hinf : P.info? e with
  | none => simp [hinf] at hsz
  | some inf =>
    have hs1 : inf.size = 1 := by simpa [hinf] using hsz
    have hrun : ∀ {v' : Value} {w' : World}, (Builtin.copy_ #[dT, sT] ty #[.slice dp dLen dCap, .slice sp sLen sCap]).run P w = .ok v' w' →
        (execOp E.ev (mkO (.call { callee := .builtin .copy, args := #[x, y], argTypes := #[dT, sT] }) ty)).run P w = .ok (.value v') w' := by
      intro v' w' h
      simp [execOp, mkO, resolve, invoke, builtin, hd, hs, h]
    by_cases hz : cs.length = 0
    · have hcs : cs = [] := List.eq_nil_of_length_eq_zero hz
      subst hcs
      have h0 : Nat.min sLen dLen = 0 := by simpa using hn.symm
      refine Does.value (hrun (v' := .int .i64 0) (w' := w) ?_) (by simpa using hk w (Ext.refl _ _) rfl (by simpa [splice] using hB))
      have hz1 : (sizeOf e).run P w = .ok inf.size w := by simp [sizeOf, typeInfo, program, Sem.run, hinf]
      have hz2 : (Builtin.firstCells inf.size 0 (.slice sp sLen sCap)).run P w = .ok #[] w := by
        cases sp <;> simp [Builtin.firstCells, loadCells, loadCellsFrom]
      have hz3 : (Builtin.lenOf (.slice sp sLen sCap)).run P w = .ok sLen w := rfl
      unfold Builtin.copy_
      cases dp <;> simp [run_underlying hu, hz1, hz2, hz3, h0, storeCells, goInt]
    · obtain rfl := hpos (by omega)
      obtain ⟨v0, hv0⟩ : ∃ v0, cs[0]? = some v0 := ⟨cs[0]'(by omega), by simp⟩
      obtain ⟨ad, rfl, _⟩ := hR 0 v0 hv0
      have hl : (loadCells ad cs.length).run P w = .ok cs.toArray w := run_loadCells_list (P := P) w ad cs fun j u hj => by
        obtain ⟨ad', e', h⟩ := hR j u hj; cases e'; exact h
      obtain ⟨w', hst, hB', hE, hzz⟩ := run_storeCells (P := P) cs off 0 cur w hB (by simpa using hfit) h1
      refine Does.value (hrun (v' := .int .i64 cs.length) (w' := w') ?_) (hk w' hE hzz (by simpa using hB'))
      have hz1 : (sizeOf e).run P w = .ok 1 w := by simp [sizeOf, typeInfo, program, Sem.run, hinf, hs1]
      have hz2 : (Builtin.firstCells 1 cs.length (.slice (some ad) sLen sCap)).run P w = .ok cs.toArray w := by
        simpa [Builtin.firstCells] using hl
      have hz3 : (Builtin.lenOf (.slice (some ad) sLen sCap)).run P w = .ok sLen w := rfl
      unfold Builtin.copy_
      simp [run_underlying hu, hz1, hz2, hz3, ← hn, hst, goInt]

def bytesOf (xs : List Int) : ByteArray := xs.foldl (fun r n => r.push (UInt8.ofNat n.toNat)) ByteArray.empty
/-- string(b) -/
theorem Does.toString {src dst e ty : TypeId} {x : Operand} {a : Option Addr} {len cap : Nat} {xs : List Int} {K : Value → World → Prop} (hs : P.underlying src = some (.slice e)) (he : P.underlying e = some (.int .u8)) (hd : P.underlying dst = some .string)
    (hx : E.ev x = .slice a len cap) (hR : Row w a (ints .u8 xs)) (hl : xs.length = len) (hk : K (.string (bytesOf xs)) w) : Does P (mkO (.convert src dst x) ty) E w K := by
  have hrun : (Conv.bytesToString (.slice a len cap)).run P w = .ok (.string (bytesOf xs)) w := by
    cases a with
    | none =>
      have : xs = [] := by
        cases xs with
        | nil => rfl
        | cons u us => obtain ⟨ad, e, _⟩ := hR 0 (.int .u8 u) rfl; cases e
      subst this; rfl
    | some ad =>
      refine run_bytesToString w ad len cap xs ?_
      rw [← hl, show xs.length = (ints .u8 xs).length by simp]
      exact run_loadCells_list (P := P) w ad (ints .u8 xs) fun j u hj => by
        obtain ⟨ad', e', h⟩ := hR j u hj; cases e'; exact h
  refine Does.value (w' := w) (run_v ?_) hk
  show (convert src dst (E.ev x)).run P w = _
  rw [hx]
  unfold convert
  simp only [Sem.run_bind, run_underlying hs, run_underlying hd, Result.andThen_ok]
  simp [run_underlying he, hrun]

end
end Go.Sat
end
section
namespace Go.Sat
open Go

section
variable {r : Option Nat} {P : Program} {n : Nat} {ds : List Deferred} {ops : Array Oper} {Q : Exit → Act → World → Prop} {w : World} {E : Env}

theorem run_part_one {T : TypeId} {cs : Array Value} {o : Nat} {v : Value} (hT : oneT P T = true) (h : cs[o]? = some v) : (part T cs o).run P w = .ok v w := by
  unfold part
  simp only [Sem.run_bind, run_isAgg_one hT, Result.andThen_ok]
  simp [h]
theorem run_part_agg {T : TypeId} {cs : Array Value} {o : Nat} (hT : aggT P T = true) : (part T cs o).run P w = .ok (.agg (cs.extract o (o + P.cellsOf T))) w := by
  unfold part
  obtain ⟨h1, h2⟩ := run_isAgg_agg (w := w) hT
  simp [Sem.run_bind, h1, h2]

/-- two arrays of whole numbers -/
theorem run_equalIn_ints {d : Nat} {t e : TypeId} {L : Nat} {k : IntKind} {xs ys : List Int} (ht : P.underlying t = some (.array L e)) (he : P.underlying e = some (.int k)) (hs : (P.info? e).map (·.size) = some 1)
    (hx : xs.length = L) (hy : ys.length = L) : (Op.equalIn (d + 2) t (.agg (ints k xs).toArray) (.agg (ints k ys).toArray)).run P w = .ok (decide (xs = ys)) w := by
  have hone : oneT P e = true := by unfold oneT; rw [he]
  have hsz : (sizeOf e).run P w = .ok 1 w := by
    cases hi : P.info? e with
    | none => simp [hi] at hs
    | some i => have : i.size = 1 := by simpa [hi] using hs
                simp [sizeOf, typeInfo, program, Sem.run, hi, this]
  have loop : ∀ (m i : Nat), i + m = L →
      (forIn (List.range' i m) ((none, ()) : Option Bool × PUnit) (fun j s => do
        if !(← Op.equalIn (d + 1) e (← part e (ints k xs).toArray (j * 1)) (← part e (ints k ys).toArray (j * 1))) then pure (.done (some false, ())) else pure (.yield (none, ()))) : Sem (Option Bool × PUnit)).run P w =
      .ok (if xs.drop i = ys.drop i then none else some false, ()) w := by
    intro m
    induction m with
    | zero =>
      intro i hi
      have e1 : xs.drop i = [] := List.drop_eq_nil_of_le (by omega)
      have e2 : ys.drop i = [] := List.drop_eq_nil_of_le (by omega)
      simp [e1, e2]
    | succ m ih =>
      intro i hi
      have h1 : i < xs.length := by omega
      have h2 : i < ys.length := by omega
      rw [List.range'_succ, List.forIn_cons]
      simp only [Sem.run_bind]
      have d1 : xs.drop i = xs[i] :: xs.drop (i + 1) := List.drop_eq_getElem_cons h1
      have d2 : ys.drop i = ys[i] :: ys.drop (i + 1) := List.drop_eq_getElem_cons h2
      have p1 : (part e (ints k xs).toArray (i * 1)).run P w = .ok (.int k xs[i]) w := run_part_one hone (by simp [ints, h1])
      have p2 : (part e (ints k ys).toArray (i * 1)).run P w = .ok (.int k ys[i]) w := run_part_one hone (by simp [ints, h2])
      have p3 := run_equalIn_int (P := P) w d e k k xs[i] ys[i] he
      simp only [p1, p2, p3, Result.andThen_ok]
      by_cases heq : xs[i] = ys[i]
      · have hb : (xs[i] == ys[i]) = true := by simpa using heq
        simp only [hb, Bool.not_true, Bool.false_eq_true, if_false, Sem.run_pure, Result.andThen_ok]
        rw [ih (i + 1) (by omega)]
        have hq : (xs.drop i = ys.drop i) = (xs.drop (i + 1) = ys.drop (i + 1)) :=
          propext ⟨fun h => (List.cons.inj (d1.symm.trans (h.trans d2))).2, fun h => d1.trans (Eq.trans (by rw [heq, h]) d2.symm)⟩
        simp only [hq]
      · have hb : (xs[i] == ys[i]) = false := by simpa using heq
        simp only [hb, Bool.not_false, if_true, Sem.run_pure, Result.andThen_ok]
        have hq : ¬ xs.drop i = ys.drop i := fun h => heq (List.cons.inj (d1.symm.trans (h.trans d2))).1
        simp [hq]
  unfold Op.equalIn
  simp only [Sem.run_bind, run_underlying ht, Result.andThen_ok, hsz]
  have hl := loop L 0 (by omega)
  rw [Std.Legacy.Range.forIn_eq_forIn_range']
  simp only [Std.Legacy.Range.size, Nat.sub_zero, Nat.add_sub_cancel, Nat.div_one]
  rw [hl]
  simp only [List.drop_zero, Result.andThen_ok]
  by_cases heq : xs = ys <;> simp [heq]

/-- '==' and '!=' of arrays of whole numbers -/
theorem Does.eqInts {b : BinOp} {t ty ty2 e : TypeId} {x y : Operand} {L : Nat} {k : IntKind} {xs ys : List Int} {K : Value → World → Prop} (ht : P.underlying t = some (.array L e)) (he : P.underlying e = some (.int k)) (hs : (P.info? e).map (·.size) = some 1)
    (hg : P.eqGuardType P.depth t = false) (hx : E.ev x = .agg (ints k xs).toArray) (hy : E.ev y = .agg (ints k ys).toArray) (hxl : xs.length = L) (hyl : ys.length = L) (hb : b = .eql ∨ b = .neq)
    (hk : K (.bool (if b = .eql then decide (xs = ys) else !decide (xs = ys))) w) : Does P (mkO (.binOp b t x y ty2) ty) E w K := by
  have h0 : (Op.equalIn 10000 t (.agg (ints k xs).toArray) (.agg (ints k ys).toArray)).run P w = .ok (decide (xs = ys)) w := run_equalIn_ints (d := 9998) ht he hs hxl hyl
  refine Does.value (w' := w) (run_v ?_) hk
  show (do eqGuard b t x y (E.ev x) (E.ev y); binOp b t (E.ev x) (E.ev y) : Sem Value).run P w = _
  rw [hx, hy]
  simp only [Sem.run_bind, run_eqGuard_agg w b t x y _ _ hg, Result.andThen_ok]
  rcases hb with rfl | rfl
  · rw [run_eql_struct, h0]; rfl
  · rw [run_neq_struct, h0]; rfl

/-- an element of an array value -/
theorem Does.index {t ty e : TypeId} {x i : Operand} {L : Nat} {k ki : IntKind} {xs : List Int} {j : Int} {K : Value → World → Prop} (ht : P.underlying t = some (.array L e)) (he : oneT P e = true) (hs : (P.info? e).map (·.size) = some 1)
    (hx : E.ev x = .agg (ints k xs).toArray) (hi : E.ev i = .int ki j) (hl : xs.length = L) (h0 : 0 ≤ j) (h1 : j < L) (hk : K (.int k (rd xs j)) w) : Does P (mkO (.index t x i) ty) E w K := by
  have hsz : (sizeOf e).run P w = .ok 1 w := by
    cases hi : P.info? e with
    | none => simp [hi] at hs
    | some i => have : i.size = 1 := by simpa [hi] using hs
                simp [sizeOf, typeInfo, program, Sem.run, hi, this]
  have p : (part e (ints k xs).toArray (j.toNat * 1)).run P w = .ok (.int k (rd xs j)) w := run_part_one he (by
    have := ints_get (k := k) (xs := xs) (j := j.toNat) (by omega)
    simpa [rd] using this)
  refine Does.value (w' := w) (run_v ?_) hk
  show (Instr.index t (E.ev x) (E.ev i)).run P w = _
  rw [hx, hi]
  have hc : 0 ≤ j ∧ j < (L : Int) := ⟨h0, h1⟩
  unfold Instr.index
  simp only [asIntOf, Sem.run_bind, Sem.run_pure, run_underlying ht, Result.andThen_ok, hc, and_self, if_true, hsz, p]

/-- '*(*[n]T)(s)': the pointer -/
theorem Does.toArray {t ty e : TypeId} {x : Operand} {L len cap : Nat} {a : Option Addr} {K : Value → World → Prop} (ht : P.underlying t = some (.array L e)) (hx : E.ev x = .slice a len cap) (hl : L ≤ len)
    (hk : K (.pointer a) w) : Does P (mkO (.sliceToArrayPointer t x) ty) E w K := by
  refine Does.value (w' := w) (run_v ?_) hk
  show (Instr.arrayAt t (E.ev x)).run P w = _
  rw [hx]
  have : ¬ len < L := by omega
  unfold Instr.arrayAt
  simp only [Sem.run_bind, run_underlying ht, Result.andThen_ok, this, if_false, Sem.run_pure]

/-! ### drawing regions, derived -/
def lookup {α : Type} (k : Nat) : List (Nat × α) → Option α
  | [] => none
  | (j, x) :: l => bif Nat.beq j k then some x else lookup k l

/-- S: the blocks that are written. S': with those that may be turned within the region. Vs: what is known of the values that are not exact. Ws: for an operation that writes, what holds ahead of it and behind it. Ls: who looks at a value that is given up behind that. -/
def mkD (S' : Nat → Prop) (I : World → Prop) (w : World) (Vs : List (Nat × (Value → World → Prop))) (Ws : List (Nat × ((World → Prop) × (World → Prop)))) (Ls : List (Nat × List Nat)) : DP :=
  { R := Ext S', I := I, w0 := w, gens := fun k => (lookup k Vs).isSome, V := fun k v w => match lookup k Vs with | some p => p v w | none => True, wr := fun k => lookup k Ws, last := fun k => lookup k Ls }

def AllV (S : Nat → Prop) : List (Nat × (Value → World → Prop)) → Prop
  | [] => True
  | (_, p) :: l => (∀ v x y, Ext S x y → p v x → p v y) ∧ AllV S l
def AllW : List (Nat × ((World → Prop) × (World → Prop))) → Prop
  | [] => True
  | (_, p) :: l => ((∀ x y, Grow x y → p.1 x → p.1 y) ∧ (∀ x y, Grow x y → p.2 x → p.2 y)) ∧ AllW l
theorem AllV.get {S : Nat → Prop} {Vs : List (Nat × (Value → World → Prop))} (h : AllV S Vs) {k : Nat} {p : Value → World → Prop} (hk : lookup k Vs = some p) : ∀ v x y, Ext S x y → p v x → p v y := by
  induction Vs with
  | nil => cases hk
  | cons q l ih =>
    obtain ⟨j, q⟩ := q
    unfold lookup at hk
    cases hb : Nat.beq j k with
    | true => simp [hb] at hk; subst hk; exact h.1
    | false => simp [hb] at hk; exact ih h.2 hk
theorem AllW.get {Ws : List (Nat × ((World → Prop) × (World → Prop)))} (h : AllW Ws) {k : Nat} {p : (World → Prop) × (World → Prop)} (hk : lookup k Ws = some p) : (∀ x y, Grow x y → p.1 x → p.1 y) ∧ (∀ x y, Grow x y → p.2 x → p.2 y) := by
  induction Ws with
  | nil => cases hk
  | cons q l ih =>
    obtain ⟨j, q⟩ := q
    unfold lookup at hk
    cases hb : Nat.beq j k with
    | true => simp [hb] at hk; subst hk; exact h.1
    | false => simp [hb] at hk; exact ih h.2 hk

variable {S : Nat → Prop} {I : World → Prop} {Vs : List (Nat × (Value → World → Prop))} {S' : Nat → Prop} {Ls : List (Nat × List Nat)} {Ws : List (Nat × ((World → Prop) × (World → Prop)))}

def AllP (w : World) : List (Nat × ((World → Prop) × (World → Prop))) → Prop
  | [] => True
  | (_, p) :: l => p.1 w ∧ AllP w l
theorem AllP.get {Ws : List (Nat × ((World → Prop) × (World → Prop)))} (h : AllP w Ws) {k : Nat} {p : (World → Prop) × (World → Prop)} (hk : lookup k Ws = some p) : p.1 w := by
  induction Ws with
  | nil => cases hk
  | cons q l ih =>
    obtain ⟨j, q⟩ := q
    unfold lookup at hk
    cases hb : Nat.beq j k with
    | true => simp [hb] at hk; subst hk; exact h.1
    | false => simp [hb] at hk; exact ih h.2 hk
def AllE (k : Nat) (x y : World) : List (Nat × ((World → Prop) × (World → Prop))) → Prop
  | [] => True
  | (j, p) :: l => (bif Nat.beq j k then p.2 y else ((p.1 x → p.1 y) ∧ (p.2 x → p.2 y))) ∧ AllE k x y l
theorem AllE.get {Ws : List (Nat × ((World → Prop) × (World → Prop)))} {k : Nat} {x y : World} (h : AllE k x y Ws) {j : Nat} {p : (World → Prop) × (World → Prop)} (hj : lookup j Ws = some p) : (j = k → p.2 y) ∧ (j ≠ k → (p.1 x → p.1 y) ∧ (p.2 x → p.2 y)) := by
  induction Ws with
  | nil => cases hj
  | cons q l ih =>
    obtain ⟨i, q⟩ := q
    unfold lookup at hj
    cases hb : Nat.beq i j with
    | true =>
      simp [hb] at hj; subst hj
      have := Nat.eq_of_beq_eq_true hb
      subst this
      have h1 := h.1
      refine ⟨fun e => ?_, fun e => ?_⟩
      · subst e; rw [Nat.beq_refl] at h1; exact h1
      · rw [nbeq e] at h1; exact h1
    | false => simp [hb] at hj; exact ih h.2 hj
theorem Row.exs {S : Nat → Prop} {w0 w w' : World} {a : Option Addr} {cs : List Value} (h : Row w a cs) (he : Ext S w w') (h0 : Row w0 a cs) (hS : ∀ k, S k → w0.heap.size ≤ k) : Row w' a cs :=
  fun j v hj => by
    obtain ⟨ad, e, h1⟩ := h j v hj
    obtain ⟨ad', e', h2⟩ := h0 j v hj
    rw [e] at e'; cases e'
    have := cell_lt h2
    simp at this
    exact ⟨ad, e, cell_ext h1 he (by simp; intro hs; have := hS _ hs; omega)⟩

/-- the region: what is left behind it -/
def DEnd (n : Nat) (ds : List Deferred) (ops : Array Oper) (S' : Nat → Prop) (I : World → Prop) (w : World) (Vs : List (Nat × (Value → World → Prop))) (Ws : List (Nat × ((World → Prop) × (World → Prop)))) (Ls : List (Nat × List Nat)) (Q : Exit → Act → World → Prop) (E : Env) : Prop :=
  ∀ a w', At n ds E a → Ext S' w w' → I w' → (∀ k p d, lookup k Vs = some p → (ops[k]?).bind (·.dst) = some d → lookup k Ls = none → ∃ u, a.tmps[d]? = some u ∧ p u w') → (∀ k p, lookup k Ws = some p → Nat.blt k ops.size = true → p.2 w') → Q .normal a w'

theorem W.drawM {id : Nat} (S' : Nat → Prop) (I : World → Prop) (Vs : List (Nat × (Value → World → Prop))) (Ws : List (Nat × ((World → Prop) × (World → Prop)))) (Ls : List (Nat × List Nat)) (hm : P.follows .mixedOrders = true) (hok : drawOk n ops = true)
    (hW : AllW Ws) (hI : ∀ x y, Ext S' x y → I x → I y) (hI0 : I w) (hW0 : AllP w Ws)
    (h : DC r P n ds ops (mkD S' I w Vs Ws Ls) (DEnd n ds ops S' I w Vs Ws Ls Q) 0 E) : W r P n ds (.region id ops true) E Q w := by
  refine W.draw (mkD S' I w Vs Ws Ls) rfl hm hok (fun m => (Grow.drawn w m).any) (fun x => Ext.refl _ _) (fun x y z h k => Ext.trans h k) hI hI0 ?_ ?_
  · intro j p hp m
    exact (hW.get hp).1 _ _ (Grow.drawn w m) (hW0.get hp)
  · have mono : ∀ {k : Nat} {E : Env} {F F' : Env → Prop}, (∀ E, F E → F' E) → DC r P n ds ops (mkD S' I w Vs Ws Ls) F k E → DC r P n ds ops (mkD S' I w Vs Ws Ls) F' k E := by
      intro k E F F' hF h
      induction h with
      | done hk hf => exact .done hk (hF _ hf)
      | det ho hg hn hw hf hrun _ ih => exact .det ho hg hn hw hf hrun ih
      | pass ho hg hn hw _ ih => exact .pass ho hg hn hw ih
      | gen ov ts ho hg hts hfine hob _ ih => exact .gen ov ts ho hg hts hfine hob ih
    refine mono ?_ h
    intro E' hE a w' hA hR hI' hgen hwr
    refine hE a w' hA hR hI' ?_ ?_
    · intro k p d hk hd hlk
      obtain ⟨o, ho, hd'⟩ := Option.bind_eq_some_iff.1 hd
      have hg : (mkD S' I w Vs Ws Ls).gens k = true := by show (lookup k Vs).isSome = true; rw [hk]; rfl
      obtain ⟨u, hu, hv⟩ := hgen k o d hg hlk ho hd'
      have hv' : match lookup k Vs with | some p => p u w' | none => True := hv
      rw [hk] at hv'
      exact ⟨u, hu, hv'⟩
    · intro k p hk hb
      exact hwr k p (by simpa [Nat.blt_eq] using hb) hk

theorem keeps_ext {S S' : Nat → Prop} {I : World → Prop} {Vs : List (Nat × (Value → World → Prop))} {Ws : List (Nat × ((World → Prop) × (World → Prop)))} {Ls : List (Nat × List Nat)} (hV : AllV S Vs) {k : Nat} {x y : World} (h : Ext S x y) : (mkD S' I w Vs Ws Ls).keeps ops k x y := by
  intro j u hg _ hv
  show match lookup j Vs with | some p => p u y | none => True
  have hv' : match lookup j Vs with | some p => p u x | none => True := hv
  cases hk : lookup j Vs with
  | none => trivial
  | some p => rw [hk] at hv'; exact hV.get hk u x y h hv'
/-- only the values of ks need be kept, and are -/
def AllK (x y : World) (Vs : List (Nat × (Value → World → Prop))) : List Nat → Prop
  | [] => True
  | k :: ks => (∀ p, lookup k Vs = some p → ∀ u, p u x → p u y) ∧ AllK x y Vs ks
theorem AllK.get {x y : World} {Vs : List (Nat × (Value → World → Prop))} {ks : List Nat} (h : AllK x y Vs ks) {k : Nat} (hk : ks.contains k = true) {p : Value → World → Prop} (hp : lookup k Vs = some p) {u : Value} (hu : p u x) : p u y := by
  induction ks with
  | nil => simp at hk
  | cons j ks ih =>
    by_cases he : k = j
    · subst he; exact h.1 p hp u hu
    · exact ih h.2 (by simpa [he] using hk)
theorem lookup_mem {α : Type} {k : Nat} {l : List (Nat × α)} {p : α} (h : lookup k l = some p) : k ∈ l.map (·.1) := by
  induction l with
  | nil => cases h
  | cons q l ih =>
    obtain ⟨j, q⟩ := q
    unfold lookup at h
    cases hb : Nat.beq j k with
    | true => have := Nat.eq_of_beq_eq_true hb; subst this; simp
    | false => rw [hb] at h; simp only [cond_false] at h; simp [ih h]
theorem keeps_of {S' : Nat → Prop} {I : World → Prop} {Vs : List (Nat × (Value → World → Prop))} {Ws : List (Nat × ((World → Prop) × (World → Prop)))} {Ls : List (Nat × List Nat)} (ks : List Nat) {k : Nat} {x y : World}
    (hc : (Vs.map (·.1)).all (fun j => !(mkD S' I w Vs Ws Ls).needs ops k j || ks.contains j) = true) (h : AllK x y Vs ks) : (mkD S' I w Vs Ws Ls).keeps ops k x y := by
  intro j u hg hn hv
  show match lookup j Vs with | some p => p u y | none => True
  have hv' : match lookup j Vs with | some p => p u x | none => True := hv
  cases hk : lookup j Vs with
  | none => trivial
  | some p =>
    rw [hk] at hv'
    have := List.all_eq_true.1 hc j (lookup_mem hk)
    rw [hn] at this
    exact h.get (by simpa using this) hk hv'

/-- a stretch of operations that look at no memory -/
theorem DC.chk {D : DP} {F : Env → Prop} {k m : Nat} {E E' : Env} {C : Prop} (hg : (List.range m).all (fun j => !D.gens (k + j) && (D.wr (k + j)).isNone) = true)
    (h : runChk P ops n ((ops.toList.drop k).take m) E = some (E', C)) (hC : C) (next : DC r P n ds ops D F (k + m) E') : DC r P n ds ops D F k E := by
  induction m generalizing k E C with
  | zero => simp only [List.take_zero, runChk, Option.some.injEq, Prod.mk.injEq] at h; obtain ⟨rfl, _⟩ := h; exact next
  | succ m ih =>
    have hg' : ∀ j, j < m + 1 → D.gens (k + j) = false ∧ D.wr (k + j) = none := by
      intro j hj
      have := List.all_eq_true.1 hg j (by simpa using hj)
      simpa using this
    cases hl : ops.toList.drop k with
    | nil =>
      rw [hl] at h
      simp only [List.take_nil, runChk, Option.some.injEq, Prod.mk.injEq] at h
      obtain ⟨rfl, _⟩ := h
      exfalso
      obtain ⟨_, _, _, _, hle⟩ := next.chain
      have : ops.toList.length ≤ k := List.drop_eq_nil_iff.1 hl
      simp at this
      omega
    | cons o l =>
      have ho : ops[k]? = some o := by
        have : (ops.toList.drop k)[0]? = some o := by rw [hl]; rfl
        simpa using this
      have hl' : ops.toList.drop (k + 1) = l := by
        have := drop_cons ho
        rw [hl] at this
        exact (List.cons.inj this).2.symm
      rw [hl, List.take_succ_cons] at h
      unfold runChk at h
      have hnext : DC r P n ds ops D F ((k + 1) + m) E' := by rw [show k + 1 + m = k + (m + 1) by omega]; exact next
      have hgn : (List.range m).all (fun j => !D.gens (k + 1 + j) && (D.wr (k + 1 + j)).isNone) = true := by
        refine List.all_eq_true.2 fun j hj => ?_
        have hj' : j < m := by simpa using hj
        obtain ⟨a, b⟩ := hg' (j + 1) (by omega)
        rw [show k + 1 + j = k + (j + 1) by omega, a, b]; rfl
      split at h
      · rename_i hw
        split at h
        · rename_i v C1 hv
          cases hf : opFine n E o with
          | false => simp [hf] at h
          | true =>
            simp only [hf, cond_true] at h
            split at h
            · rename_i E2 C2 h2
              simp only [Option.some.injEq, Prod.mk.injEq] at h
              obtain ⟨rfl, rfl⟩ := h
              refine .det ho (hg' 0 (by omega)).1 (hg' 0 (by omega)).2 hw hf (fun w' _ _ _ => chkOp_spec hv hC.1 w') (ih hgn ?_ hC.2 hnext)
              rw [hl']; exact h2
            · cases h
        · cases h
      · rename_i hw
        cases hd : dstOk n o.dst with
        | false => simp [hd] at h
        | true =>
          simp only [hd, cond_true] at h
          refine .pass ho (hg' 0 (by omega)).1 (hg' 0 (by omega)).2 hw (ih hgn ?_ hC hnext)
          rw [hl']; exact h
      · cases h

/-- an operation that yields a known value (a load) -/
theorem DC.known {F : Env → Prop} {k : Nat} {op : Op} {ty : TypeId} {dst : Option Tmp} {v : Value} (hl : look ops n k E = some (op, ty, dst)) (hg : lookup k Vs = none) (hn : lookup k Ws = none)
    (hd : ∀ w', Ext S' w w' → I w' → (mkD S' I w Vs Ws Ls).use ops k w' → (execOp E.ev (mkO op ty)).run P w' = .ok (.value v) w')
    (next : DC r P n ds ops (mkD S' I w Vs Ws Ls) F (k + 1) (E.put dst v)) : DC r P n ds ops (mkD S' I w Vs Ws Ls) F k E := by
  obtain ⟨o, ho, hw, hf, rfl, rfl, rfl⟩ := look_spec hl
  exact .det ho (by show (lookup k Vs).isSome = false; rw [hg]; rfl) hn hw hf hd next

/-- an operation whose value is not exact: out of what it does -/
theorem DC.loose {F : Env → Prop} {k : Nat} {op : Op} {ty : TypeId} {dst : Option Tmp} {p : Value → World → Prop} (hV : AllV S Vs) (hSS : ∀ k, S k → S' k) (ts : List (Nat × Nat)) (hl : ∀ us, look ops n k (withVals ts us E) = some (op, ty, dst)) (hg : lookup k Vs = some p)
    (hts : ts.all (fun t => Nat.blt t.2 k && (lookup t.2 Vs).isSome && ((ops[t.2]?).bind (·.dst) == some t.1) && (op.operands.toList.filterMap fun | .tmp t => some t | _ => none).contains t.1 && (mkD S' I w Vs Ws Ls).usedBy t.2 k) = true)
    (hd : ∀ us w', Ext S' w w' → I w' → (mkD S' I w Vs Ws Ls).use ops k w' → (∀ t ∈ ts, (mkD S' I w Vs Ws Ls).V t.2 (us t.1) w') → Does P (mkO op ty) (withVals ts us E) w' (fun v w2 => p v w2 ∧ Ext S w' w2 ∧ (mkD S' I w Vs Ws Ls).eff k w' w2))
    (next : DC r P n ds ops (mkD S' I w Vs Ws Ls) F (k + 1) (E.drop dst)) : DC r P n ds ops (mkD S' I w Vs Ws Ls) F k E := by
  obtain ⟨o, ho, _, _, rfl, rfl, rfl⟩ := look_spec (hl fun _ => undef)
  refine .gen none ts ho (by show (lookup k Vs).isSome = true; rw [hg]; rfl) ?_ (fun us => ?_) (fun us w' h1 h2 h3 h4 => ?_) next
  · refine List.all_eq_true.2 fun t ht => ?_
    have := List.all_eq_true.1 hts t ht
    simp only [Bool.and_eq_true] at this ⊢
    refine ⟨⟨this.1.1, ?_⟩, this.2⟩
    unfold slotsOf
    have h := this.1.2
    rw [List.contains_iff_mem] at h ⊢
    exact List.mem_append_left _ h
  · obtain ⟨o', ho', hw, hf, _, _, _⟩ := look_spec (hl us)
    rw [ho] at ho'; cases ho'; exact ⟨hw, hf⟩
  · have := hd us w' h1 h2 h3 h4
    refine Does.mono (o := o) (show Does P o (withVals ts us E) w' _ from this) ?_
    rintro v w2 ⟨e1, e2, e3⟩
    refine ⟨?_, e2.mono hSS, e3, keeps_ext hV e2⟩
    show match lookup k Vs with | some p => p v w2 | none => True
    rw [hg]; exact e1

/-- the same, where what may be given up is turned -/
theorem DC.app {F : Env → Prop} {k : Nat} {op : Op} {ty : TypeId} {dst : Option Tmp} {p : Value → World → Prop} (ts : List (Nat × Nat)) (hl : ∀ us, look ops n k (withVals ts us E) = some (op, ty, dst)) (hg : lookup k Vs = some p)
    (hts : ts.all (fun t => Nat.blt t.2 k && (lookup t.2 Vs).isSome && ((ops[t.2]?).bind (·.dst) == some t.1) && (op.operands.toList.filterMap fun | .tmp t => some t | _ => none).contains t.1 && (mkD S' I w Vs Ws Ls).usedBy t.2 k) = true)
    (hd : ∀ us w', Ext S' w w' → I w' → (mkD S' I w Vs Ws Ls).use ops k w' → (∀ t ∈ ts, (mkD S' I w Vs Ws Ls).V t.2 (us t.1) w') → Does P (mkO op ty) (withVals ts us E) w' (fun v w2 => p v w2 ∧ Ext S' w' w2 ∧ (mkD S' I w Vs Ws Ls).eff k w' w2 ∧ (mkD S' I w Vs Ws Ls).keeps ops k w' w2))
    (next : DC r P n ds ops (mkD S' I w Vs Ws Ls) F (k + 1) (E.drop dst)) : DC r P n ds ops (mkD S' I w Vs Ws Ls) F k E := by
  obtain ⟨o, ho, _, _, rfl, rfl, rfl⟩ := look_spec (hl fun _ => undef)
  refine .gen none ts ho (by show (lookup k Vs).isSome = true; rw [hg]; rfl) ?_ (fun us => ?_) (fun us w' h1 h2 h3 h4 => ?_) next
  · refine List.all_eq_true.2 fun t ht => ?_
    have := List.all_eq_true.1 hts t ht
    simp only [Bool.and_eq_true] at this ⊢
    refine ⟨⟨this.1.1, ?_⟩, this.2⟩
    unfold slotsOf
    have h := this.1.2
    rw [List.contains_iff_mem] at h ⊢
    exact List.mem_append_left _ h
  · obtain ⟨o', ho', hw, hf, _, _, _⟩ := look_spec (hl us)
    rw [ho] at ho'; cases ho'; exact ⟨hw, hf⟩
  · have := hd us w' h1 h2 h3 h4
    refine Does.mono (o := o) (show Does P o (withVals ts us E) w' _ from this) ?_
    rintro v w2 ⟨e1, e2, e3, e4⟩
    refine ⟨?_, e2, e3, e4⟩
    show match lookup k Vs with | some p => p v w2 | none => True
    rw [hg]; exact e1

theorem eff_all {k : Nat} {x y : World} (h : AllE k x y Ws) : (mkD S' I w Vs Ws Ls).eff k x y := fun _ _ hp => h.get hp

/-- an operation that turns memory, or calls, and yields a known value -/
theorem DC.exact {F : Env → Prop} {k : Nat} {op : Op} {ty : TypeId} {dst : Option Tmp} {x : Value} (hV : AllV S Vs) (hSS : ∀ k, S k → S' k) (ts : List (Nat × Nat)) (hl : ∀ us, look ops n k (withVals ts us E) = some (op, ty, dst)) (hg : lookup k Vs = none)
    (hts : ts.all (fun t => Nat.blt t.2 k && (lookup t.2 Vs).isSome && ((ops[t.2]?).bind (·.dst) == some t.1) && (op.operands.toList.filterMap fun | .tmp t => some t | _ => none).contains t.1 && (mkD S' I w Vs Ws Ls).usedBy t.2 k) = true)
    (hd : ∀ us w', Ext S' w w' → I w' → (mkD S' I w Vs Ws Ls).use ops k w' → (∀ t ∈ ts, (mkD S' I w Vs Ws Ls).V t.2 (us t.1) w') → Does P (mkO op ty) (withVals ts us E) w' (fun v w2 => v = x ∧ Ext S w' w2 ∧ (mkD S' I w Vs Ws Ls).eff k w' w2))
    (next : DC r P n ds ops (mkD S' I w Vs Ws Ls) F (k + 1) (E.put dst x)) : DC r P n ds ops (mkD S' I w Vs Ws Ls) F k E := by
  obtain ⟨o, ho, _, _, rfl, rfl, rfl⟩ := look_spec (hl fun _ => undef)
  refine .gen (some x) ts ho (by show (lookup k Vs).isSome = false; rw [hg]; rfl) ?_ (fun us => ?_) (fun us w' h1 h2 h3 h4 => ?_) next
  · refine List.all_eq_true.2 fun t ht => ?_
    have := List.all_eq_true.1 hts t ht
    simp only [Bool.and_eq_true] at this ⊢
    refine ⟨⟨this.1.1, ?_⟩, this.2⟩
    unfold slotsOf
    have h := this.1.2
    rw [List.contains_iff_mem] at h ⊢
    exact List.mem_append_left _ h
  · obtain ⟨o', ho', hw, hf, _, _, _⟩ := look_spec (hl us)
    rw [ho] at ho'; cases ho'; exact ⟨hw, hf⟩
  · refine Does.mono (o := o) (show Does P o (withVals ts us E) w' _ from hd us w' h1 h2 h3 h4) ?_
    rintro v w2 ⟨e1, e2, e3⟩
    exact ⟨e1, e2.mono hSS, e3, keeps_ext hV e2⟩

/-- what grows keeps what is known of the blocks that are written -/
theorem eff_grow (hW : AllW Ws) {k : Nat} (hn : lookup k Ws = none) {x y : World} (h : Grow x y) : (mkD S' I w Vs Ws Ls).eff k x y := by
  intro j p hp
  have hp' : lookup j Ws = some p := hp
  refine ⟨fun e => (by subst e; rw [hn] at hp'; cases hp'), fun _ => ⟨(hW.get hp').1 _ _ h, (hW.get hp').2 _ _ h⟩⟩

theorem DC.cast {D : DP} {F : Env → Prop} {k : Nat} {E E' : Env} (he : E = E') (h : DC r P n ds ops D F k E') : DC r P n ds ops D F k E := he ▸ h
theorem W.keep {c : Code} {E' : Env} (ks : List Nat) (hE : E.to ks = some E') (h : W r P n ds c E' Q w) : W r P n ds c E Q w := fun a ha => h a (ha.to ks hE)
theorem apAt {K : Exit → Act → World → Prop} {x : Exit} {a : Act} {w : World} (h : At n ds E a) (f : ∀ a, At n ds E a → K x a w) : K x a w := f a h
theorem run_load {T ty : TypeId} {x : Operand} {ad : Addr} {v : Value} (hx : E.ev x = .pointer (some ad)) (hv : (loadVar T ad).run P w = .ok v w) : (execOp E.ev (mkO (.load T x) ty)).run P w = .ok (.value v) w := by
  refine run_v ?_
  show (Instr.loadAt T (E.ev x)).run P w = _
  rw [hx]
  simpa [Instr.loadAt, Instr.sureAddr] using hv
theorem Does.storeInt {T T0 ty : TypeId} {x y : Operand} {b o j : Nat} {kd : IntKind} {xs : List Int} {v : Int} {K : Value → World → Prop} (hx : E.ev x = .pointer (some ⟨b, o, none⟩))
    (hB : Blk w b (ints kd xs) T0) (hv : E.ev y = .int kd v) (hs : (P.info? T).map (·.size) = some 1) (ho : o = j) (hj : j < xs.length)
    (hk : ∀ w', Ext1 b w w' → w'.heap.size = w.heap.size → Blk w' b (ints kd (xs.set j v)) T0 → K undef w') : Does P (mkO (.store T x y) ty) E w K :=
  Does.store hx hB [.int kd v] (by rw [hv]; rfl) hs (by simp; omega) rfl fun w' h1 h2 h3 => hk w' h1 h2 (by rw [splice_one _ _ _ (by simp; omega), ho, ints_set] at h3; exact h3)
end
end Go.Sat
end
section
namespace Go.Sat
open Go

theorem nn_wrap (n : Int) : (0 : Int) ≤ IntKind.u64.wrap n := by
  have h : IntKind.u64.wrap n = n % 18446744073709551616 := by simp [IntKind.wrap, IntKind.bits, IntKind.signed]
  rw [h]; omega
theorem nn_and (a b : Int) : (0 : Int) ≤ bAnd .u64 a b := nn_wrap _

/-! ### the sum -/
def crcBit (n : Int) : Int := if bAnd .u32 n 1 = 1 then bXor .u32 (sShr .u32 n 1) 3988292384 else sShr .u32 n 1
def crcBits : Nat → Int → Int
  | 0, n => n
  | k + 1, n => crcBits k (crcBit n)
def crcCell (i : Nat) : Int := crcBits 8 (IntKind.u32.wrap i)
def crcTab : List Int := (List.range 256).map crcCell
theorem crcTab_length : crcTab.length = 256 := by simp [crcTab]
theorem crcBit_odd {n : Int} (h : bAnd .u32 n 1 = 1) : bXor .u32 (sShr .u32 n 1) 3988292384 = crcBit n := by rw [crcBit, if_pos h]
theorem crcBit_even {n : Int} (h : bAnd .u32 n 1 ≠ 1) : sShr .u32 n 1 = crcBit n := by rw [crcBit, if_neg h]
theorem crc_start {i : Int} (h : 0 ≤ i) : crcBits (8 - (0 : Int)).toNat (IntKind.u32.wrap i) = crcCell i.toNat := by
  unfold crcCell; rw [Int.toNat_of_nonneg h]; rfl
theorem crc_step {k n m : Int} {c : Int} (h : crcBits (8 - k).toNat n = c) (hk : k < 8) (hm : m = crcBit n) : crcBits (8 - (k + 1)).toNat m = c := by
  subst hm; rw [← h, show (8 - k).toNat = (8 - (k + 1)).toNat + 1 by omega]; rfl
theorem crc_put {t : List Int} {i n : Int} (hlen : t.length = 256) (ht : ∀ j : Nat, (j : Int) < i → t.getD j 0 = crcCell j) (h1 : 0 ≤ i) (h2 : i < 256) (hn : crcBits (8 - (8 : Int)).toNat n = crcCell i.toNat) :
    ∀ j : Nat, (j : Int) < i + 1 → (t.set i.toNat n).getD j 0 = crcCell j := by
  intro j hj
  by_cases he : i.toNat = j
  · subst he; simp [hlen, List.getD_eq_getElem?_getD, List.getElem?_set]; rw [if_pos (by omega)]; simpa [crcBits] using hn
  · rw [List.getD_eq_getElem?_getD, List.getElem?_set_ne he, ← List.getD_eq_getElem?_getD]; exact ht j (by omega)
theorem crc_all {t : List Int} (hlen : t.length = 256) (ht : ∀ j : Nat, (j : Int) < 256 → t.getD j 0 = crcCell j) : t = crcTab := by
  apply List.ext_getElem
  · simp [crcTab, hlen]
  · intro j h1 h2
    have := ht j (by omega)
    simp [crcTab]
    rw [List.getD_eq_getElem?_getD, List.getElem?_eq_getElem h1] at this
    simpa using this
def crcByte (n c : Int) : Int := bXor .u32 (rd crcTab (bXor .u8 (IntKind.u8.wrap n) c)) (sShr .u32 n 8)
def crcRun (n : Int) (b : List Int) : Int := b.foldl crcByte n
def not32 (n : Int) : Int := bXor .u32 4294967295 n
def crcSum (b : List Int) : Int := not32 (crcRun (not32 0) b)
theorem crcRun_take {n : Int} {b : List Int} {i : Nat} (h : i < b.length) : crcRun n (b.take (i + 1)) = crcByte (crcRun n (b.take i)) (b.getD i 0) := by
  unfold crcRun
  rw [List.take_succ_eq_append_getElem h, List.foldl_append]
  simp [List.getD_eq_getElem?_getD, h]
/-- the sum, bit by bit -/
def refBit (c : Int) (k : Int) (n : Int) : Int := if n.tmod 2 ≠ (IntKind.u32.wrap (sShr .u8 c k)).tmod 2 then bXor .u32 (sShr .u32 n 1) 3988292384 else sShr .u32 n 1

/-! ### the digest -/
def rot (x n : Int) : Int := bOr .u32 (sShr .u32 x n) (sShl .u32 x (32 - n))
theorem bOr_comm (k : IntKind) (a b : Int) : bOr k a b = bOr k b a := by unfold bOr; rw [BitVec.or_comm]
theorem down_count (n : Int) (h1 : 0 < n) (h2 : n < 32) : bAnd .u64 (IntKind.u64.wrap (IntKind.i64.wrap (0 - n))) 31 = 32 - n := by
  obtain ⟨m, rfl⟩ := Int.eq_ofNat_of_zero_le (Int.le_of_lt h1)
  have : ∀ m : Fin 32, 0 < m.val → bAnd .u64 (IntKind.u64.wrap (IntKind.i64.wrap (0 - (m.val : Int)))) 31 = 32 - (m.val : Int) := by decide +kernel
  exact this ⟨m, by omega⟩ (by simpa using h1)
theorem down_back (n : Int) (h1 : 0 < n) (h2 : n < 32) : IntKind.u64.wrap (32 - (32 - n)) = n := by
  obtain ⟨m, rfl⟩ := Int.eq_ofNat_of_zero_le (Int.le_of_lt h1)
  have : ∀ m : Fin 32, 0 < m.val → IntKind.u64.wrap (32 - (32 - (m.val : Int))) = (m.val : Int) := by decide +kernel
  exact this ⟨m, by omega⟩ (by simpa using h1)

def beWord (b : List Int) (i : Int) : Int :=
  bOr .u32 (bOr .u32 (bOr .u32 (sShl .u32 (IntKind.u32.wrap (rd b (4 * i))) 24) (sShl .u32 (IntKind.u32.wrap (rd b ((4 * i) + 1))) 16)) (sShl .u32 (IntKind.u32.wrap (rd b ((4 * i) + 2))) 8)) (IntKind.u32.wrap (rd b ((4 * i) + 3)))
def wsA (b : List Int) : Nat → List Int
  | 0 => zer 64
  | k + 1 => (wsA b k).set k (beWord b k)
def wSig0 (x : Int) : Int := bXor .u32 (bXor .u32 (rot x 7) (rot x 18)) (sShr .u32 x 3)
def wSig1 (y : Int) : Int := bXor .u32 (bXor .u32 (rot y 17) (rot y 19)) (sShr .u32 y 10)
def wStep (w : List Int) (i : Int) : Int :=
  IntKind.u32.wrap (IntKind.u32.wrap (IntKind.u32.wrap (rd w (i - 16) + wSig0 (rd w (i - 15))) + rd w (i - 7)) + wSig1 (rd w (i - 2)))
def wsB (b : List Int) : Nat → List Int
  | 0 => wsA b 16
  | k + 1 => (wsB b k).set (16 + k) (wStep (wsB b k) (16 + k))
def shaW (b : List Int) : List Int := wsB b 48
theorem wsA_length (b : List Int) (k : Nat) : (wsA b k).length = 64 := by induction k <;> simp_all [wsA, zer_length]
theorem wsB_length (b : List Int) (k : Nat) : (wsB b k).length = 64 := by induction k <;> simp_all [wsB, wsA_length]
theorem shaW_length (b : List Int) : (shaW b).length = 64 := wsB_length b 48
theorem wsA_succ {b t : List Int} {i : Int} {x : Int} (h0 : 0 ≤ i) (ht : t = wsA b i.toNat) (hx : x = beWord b i) : t.set i.toNat x = wsA b (i + 1).toNat := by
  rw [show (i + 1).toNat = i.toNat + 1 by omega, wsA, ht, hx, Int.toNat_of_nonneg h0]
theorem wsB_succ {b t : List Int} {i : Int} {x : Int} (h0 : 16 ≤ i) (ht : t = wsB b (i - 16).toNat) (hx : x = wStep t i) : t.set i.toNat x = wsB b (i + 1 - 16).toNat := by
  rw [show (i + 1 - 16).toNat = (i - 16).toNat + 1 by omega, wsB, ← ht, hx, show (16 + (i - 16).toNat : Nat) = i.toNat by omega, show (16 + ((i - 16).toNat : Int)) = i by omega]
def shaK : List Int := [0x428a2f98, 0x71374491, 0xb5c0fbcf, 0xe9b5dba5, 0x3956c25b, 0x59f111f1, 0x923f82a4, 0xab1c5ed5, 0xd807aa98, 0x12835b01, 0x243185be, 0x550c7dc3, 0x72be5d74, 0x80deb1fe, 0x9bdc06a7, 0xc19bf174, 0xe49b69c1, 0xefbe4786, 0x0fc19dc6, 0x240ca1cc, 0x2de92c6f, 0x4a7484aa, 0x5cb0a9dc, 0x76f988da, 0x983e5152, 0xa831c66d, 0xb00327c8, 0xbf597fc7, 0xc6e00bf3, 0xd5a79147, 0x06ca6351, 0x14292967, 0x27b70a85, 0x2e1b2138, 0x4d2c6dfc, 0x53380d13, 0x650a7354, 0x766a0abb, 0x81c2c92e, 0x92722c85, 0xa2bfe8a1, 0xa81a664b, 0xc24b8b70, 0xc76c51a3, 0xd192e819, 0xd6990624, 0xf40e3585, 0x106aa070, 0x19a4c116, 0x1e376c08, 0x2748774c, 0x34b0bcb5, 0x391c0cb3, 0x4ed8aa4a, 0x5b9cca4f, 0x682e6ff3, 0x748f82ee, 0x78a5636f, 0x84c87814, 0x8cc70208, 0x90befffa, 0xa4506ceb, 0xbef9a3f7, 0xc67178f2]
theorem shaK_length : shaK.length = 64 := rfl
def shaInit : List Int := [0x6a09e667, 0xbb67ae85, 0x3c6ef372, 0xa54ff53a, 0x510e527f, 0x9b05688c, 0x1f83d9ab, 0x5be0cd19]
theorem shaInit_length : shaInit.length = 8 := rfl
def shaT (w r : List Int) (i : Int) : Int :=
  IntKind.u32.wrap (IntKind.u32.wrap (IntKind.u32.wrap (IntKind.u32.wrap (rd r 7 + bXor .u32 (bXor .u32 (rot (rd r 4) 6) (rot (rd r 4) 11)) (rot (rd r 4) 25)) +
    bXor .u32 (bAnd .u32 (rd r 4) (rd r 5)) (bAnd .u32 (bXor .u32 4294967295 (rd r 4)) (rd r 6))) + rd shaK i) + rd w i)
def shaU (r : List Int) : Int :=
  IntKind.u32.wrap (bXor .u32 (bXor .u32 (rot (rd r 0) 2) (rot (rd r 0) 13)) (rot (rd r 0) 22) +
    bXor .u32 (bXor .u32 (bAnd .u32 (rd r 0) (rd r 1)) (bAnd .u32 (rd r 0) (rd r 2))) (bAnd .u32 (rd r 1) (rd r 2)))
def shaRound (w r : List Int) (i : Int) : List Int :=
  [IntKind.u32.wrap (shaT w r i + shaU r), rd r 0, rd r 1, rd r 2, IntKind.u32.wrap (rd r 3 + shaT w r i), rd r 4, rd r 5, rd r 6]
def shaIter (w s : List Int) : Nat → List Int
  | 0 => s
  | k + 1 => shaRound w (shaIter w s k) k
theorem shaIter_succ {w s r x : List Int} {i : Int} (h0 : 0 ≤ i) (hr : r = shaIter w s i.toNat) (hx : x = shaRound w r i) : x = shaIter w s (i + 1).toNat := by
  rw [show (i + 1).toNat = i.toNat + 1 by omega, shaIter, ← hr, hx, Int.toNat_of_nonneg h0]
theorem shaIter_length {w s : List Int} (h : s.length = 8) (k : Nat) : (shaIter w s k).length = 8 := by
  cases k with
  | zero => exact h
  | succ k => rfl
/-- word by word -/
def addTo (r s : List Int) : Nat → List Int
  | 0 => r
  | k + 1 => (addTo r s k).set k (IntKind.u32.wrap (rd (addTo r s k) k + rd s k))
theorem addTo_length {r s : List Int} (h : r.length = 8) (k : Nat) : (addTo r s k).length = 8 := by induction k <;> simp_all [addTo]
theorem addTo_succ {r s t : List Int} {i x : Int} (h0 : 0 ≤ i) (ht : t = addTo r s i.toNat) (hx : x = IntKind.u32.wrap (rd t i + rd s i)) : t.set i.toNat x = addTo r s (i + 1).toNat := by
  rw [show (i + 1).toNat = i.toNat + 1 by omega, addTo, ← ht, hx, Int.toNat_of_nonneg h0]
theorem addTo_rd {r s : List Int} (h : r.length = 8) (k : Nat) (hk : k ≤ 8) (j : Nat) (hj : j < 8) : rd (addTo r s k) j = if j < k then IntKind.u32.wrap (rd r j + rd s j) else rd r j := by
  induction k with
  | zero => simp [addTo]
  | succ k ih =>
    have ihk := ih (by omega)
    have hl := addTo_length (s := s) h k
    have e1 : ∀ (xs : List Int) (j : Nat), rd xs (j : Int) = xs.getD j 0 := fun xs j => by simp [rd]
    rw [addTo, e1]
    by_cases he : k = j
    · subst he
      rw [List.getD_eq_getElem?_getD, List.getElem?_set_self (by omega)]
      have : rd (addTo r s k) k = rd r k := by
        have := ih (by omega)
        simpa using this
      simp [this]
    · rw [List.getD_eq_getElem?_getD, List.getElem?_set_ne he, ← List.getD_eq_getElem?_getD, ← e1, ihk]
      by_cases h1 : j < k
      · simp [h1, show j < k + 1 by omega]
      · simp [h1, show ¬ j < k + 1 by omega]
def shaNext (s b : List Int) : List Int := addTo (shaIter (shaW b) s 64) s 8
theorem shaNext_length {s b : List Int} (h : s.length = 8) : (shaNext s b).length = 8 := addTo_length (shaIter_length h 64) 8
/-- the same, the summands turned round -/
theorem addTo_comm {r s : List Int} (hr : r.length = 8) (hs : s.length = 8) : addTo s r 8 = addTo r s 8 := by
  apply List.ext_getElem
  · rw [addTo_length hs, addTo_length hr]
  · intro j h1 h2
    have l1 := addTo_length (s := r) hs 8
    have l2 := addTo_length (s := s) hr 8
    have hj : j < 8 := by omega
    have a := addTo_rd (s := r) hs 8 (Nat.le_refl _) j hj
    have b := addTo_rd (s := s) hr 8 (Nat.le_refl _) j hj
    simp only [rd, Int.toNat_natCast, List.getD_eq_getElem?_getD, List.getElem?_eq_getElem h1, List.getElem?_eq_getElem h2, Option.getD_some, hj, if_true] at a b
    rw [a, b, Int.add_comm]
end Go.Sat
end
section
namespace Go.Sat
open Go

theorem Ext.keep {S S' : Nat → Prop} {w0 a b : World} (h0 : Ext S w0 a) (h : Ext S' a b) (hs : ∀ k, S' k → S k ∨ w0.heap.size ≤ k) : Ext S w0 b :=
  ⟨h.os.trans h0.os, h.tape.trans h0.tape, h.output.trans h0.output, Nat.le_trans h0.size h.size, fun k hk hn =>
    (h.same k (Nat.lt_of_lt_of_le hk h0.size) fun hq => (hs k hq).elim hn fun hl => absurd hl (by omega)).trans (h0.same k hk hn)⟩

theorem Row.exm {S : Nat → Prop} {w0 w w' : World} {a : Option Addr} {cs : List Value} (h : Row w a cs) (he : Ext S w w') (h0 : Row w0 a cs) (hS : ∀ k, S k → w0.heap.size ≤ k ∨ ∀ ad, a = some ad → ad.block ≠ k) : Row w' a cs :=
  fun j v hj => by
    obtain ⟨ad, e, h1⟩ := h j v hj
    obtain ⟨ad', e', h2⟩ := h0 j v hj
    rw [e] at e'; cases e'
    have hl := cell_lt h2
    rw [show (ad.add j).block = ad.block by simp] at hl
    exact ⟨ad, e, cell_ext h1 he fun hq => by
      rw [show (ad.add j).block = ad.block by simp] at hq
      exact (hS _ hq).elim (fun hk => absurd hk (by omega)) (fun hn => hn ad e rfl)⟩

theorem len_cast {P : Program} {f : FuncId} {a : Option Addr} {m n c : Nat} {w : World} {R : Value → World → Prop} (e : m = n) (h : Ret P f #[.slice a m c] w R) : Ret P f #[.slice a n c] w R := e ▸ h
/-- is a cell of the kind that a value of one cell has? -/
def likeZ (z u : Value) : Prop := match z with | .int kd _ => ∃ x, u = .int kd x | _ => True
theorem like_ints (kd : IntKind) (x : Int) (xs : List Int) : ∀ u ∈ ints kd xs, likeZ (.int kd x) u := fun u hu => by
  obtain ⟨y, _, rfl⟩ := List.mem_map.1 hu; exact ⟨y, rfl⟩
theorem int_size (k : IntKind) (x : Int) : (Value.int k x).cells.size = 1 := rfl
abbrev B0 : Value := .int .u8 0
abbrev I0 : Value := .int .i64 0
/-- a row of the call's own, newer than base; z: the element type's nought -/
structure Own (w : World) (base : Nat) (e : TypeId) (z : Value) (v : Value) (k : Nat) (xs : List Value) : Prop where
  own : w.ownsRow base e z.cells.size v k xs
  room : base ≤ w.heap.size
  tame : ∀ g cs T f, v.ownBlock = some g → w.heap[g]? = some (.cells cs T f) → ∀ u ∈ cs.toList, likeZ z u
section
variable {w w' : World} {base : Nat} {e : TypeId} {z : Value} {v : Value} {k : Nat} {xs : List Value}
theorem own_ge (h : Own w base e z v k xs) {q : Nat} (hq : some q = v.ownBlock) : base ≤ q := by
  rcases own_open h.own with ⟨rfl, _⟩ | ⟨g, c, sp, rfl, hb, _⟩
  · cases hq
  · cases hq; exact hb
theorem own_lt (h : Own w base e z v k xs) {q : Nat} (hq : some q = v.ownBlock) (hl : q < base) : False := by
  have := own_ge h hq; omega
theorem own_low (h : Own w base e z v k xs) {q : Nat} (hq : some q = v.ownBlock) : q < w.heap.size := by
  rcases own_open h.own with ⟨rfl, _⟩ | ⟨g, c, sp, rfl, _, hB, _⟩
  · cases hq
  · cases hq; exact hB.lt
theorem Own.ext {S : Nat → Prop} (h : Own w base e z v k xs) (he : Ext S w w') (hn : ∀ b, v.ownBlock = some b → ¬ S b) : Own w' base e z v k xs :=
  ⟨own_ext h.own he hn, Nat.le_trans h.room he.size, fun g cs T f hg hc => h.tame g cs T f hg (by rw [← he.same g (own_low h hg.symm) (hn g hg)]; exact hc)⟩
theorem Own.up (h : Own w base e z v k xs) (he : Grow w w') : Own w' base e z v k xs := h.ext he fun _ _ => id
theorem Own.row {a : Option Addr} {len cap : Nat} (h : Own w base e z (.slice a len cap) k xs) : Row w a xs := own_row h.own
/-- a block older than the row's base is written -/
theorem Own.old {c : Nat} (h : Own w base e z v k xs) (he : Ext1 c w w') (hc : c < base) : Own w' base e z v k xs := h.ext he fun b hb (hq : b = c) => own_lt h hb.symm (by omega)
/-- a block newer than all that there was when the row was -/
theorem Own.new {c : Nat} {w0 : World} (h : Own w base e z v k xs) (he : Ext1 c w w') (h0 : Own w0 base e z v k xs) (hc : w0.heap.size ≤ c) : Own w' base e z v k xs := h.ext he fun b hb (hq : b = c) => by have := own_low h0 hb.symm; omega
theorem Own.ilen {ys : List Int} {kd k0 : IntKind} {x0 : Int} (h : Own w base e (.int k0 x0) v k (ints kd ys)) : ys.length = k := by have := h.own.1; simpa [int_size] using this
theorem Own.nil (hb : base ≤ w.heap.size) : Own w base e z (.slice none 0 0) 0 [] := ⟨⟨by simp, .inl ⟨rfl, rfl⟩⟩, hb, fun g cs T f hg => by cases hg⟩
/-- a row out of a block: what there is, and what is spare -/
theorem Own.mk' {b n c : Nat} {xs sp : List Value} (h : Blk w b (xs ++ sp) e) (hb : base ≤ b) (hl : xs.length = n * z.cells.size) (h2 : (xs ++ sp).length = c * z.cells.size) (hk : n ≤ c) (hm : c ≤ maxLen) (hz : ∀ u ∈ xs ++ sp, likeZ z u) :
    Own w base e z (.slice (some ⟨b, 0, none⟩) n c) n xs :=
  ⟨own_mk hb h hl h2 hk hm, Nat.le_trans hb (Nat.le_of_lt h.lt), fun g cs T f hg hc => by cases hg; rw [h] at hc; cases hc; exact hz⟩
theorem Own.of_blk {b n : Nat} {kd : IntKind} {x0 : Int} {xs : List Int} (h : Blk w b (ints kd xs) e) (hl : xs.length = n) (hm : n ≤ 4611686018427387904) : Own w b e (.int kd x0) (.slice (some ⟨b, 0, none⟩) n n) n (ints kd xs) :=
  Own.mk' (sp := []) (by simpa using h) (Nat.le_refl _) (by simp [hl, int_size]) (by simp [hl, int_size]) (Nat.le_refl _) (by unfold maxLen; omega) (by simpa using like_ints kd x0 xs)
theorem Own.blk_low {b n : Nat} (h : Blk w b xs e) (hb : base ≤ b) (hl : xs.length = n * z.cells.size) (hm : n ≤ 4611686018427387904) (hz : ∀ u ∈ xs, likeZ z u) : Own w base e z (.slice (some ⟨b, 0, none⟩) n n) n xs :=
  Own.mk' (sp := []) (by simpa using h) hb hl (by simpa using hl) (Nat.le_refl _) (by unfold maxLen; omega) (by simpa using hz)
theorem Own.lower {base' : Nat} (h : Own w base e z v k xs) (hb : base' ≤ base) : Own w base' e z v k xs := ⟨own_lower h.own hb, Nat.le_trans hb h.room, h.tame⟩
theorem own_open2 (h : Own w base e z v k xs) : ∃ a c, v = .slice a k c ∧ k ≤ c ∧ (a = none → c = 0) := by
  rcases own_open h.own with ⟨rfl, rfl, rfl⟩ | ⟨g, c, sp, rfl, hb, hB, _, _, h1, h2⟩
  · exact ⟨none, 0, rfl, Nat.le_refl _, fun _ => rfl⟩
  · exact ⟨_, c, rfl, h1, fun h => by cases h⟩
/-- a row's block is newer than base -/
theorem Own.blk {n c : Nat} {a : Option Addr} (h : Own w base e z (.slice a n c) k xs) : ∀ ad, a = some ad → base ≤ ad.block ∧ ad.block < w.heap.size := by
  obtain ⟨a', c', hv, _, _, hb, _⟩ := own_slice h.own
  cases hv; exact hb
theorem own_len {n c : Nat} {a : Option Addr} (h : Own w base e z (.slice a n c) k xs) : k ≤ c := by
  obtain ⟨a', c', hv, h1, _⟩ := own_slice h.own
  cases hv; exact h1
end
theorem like_zero {z : Value} (hz : ∀ kd x, z = .int kd x → z.cells = #[z]) (n : Nat) : ∀ u ∈ (Builtin.zeroCells z.cells n).toList, likeZ z u := by
  intro u hu
  cases z with
  | int kd x =>
    simp only [Builtin.zeroCells, Array.toList_map] at hu
    obtain ⟨i, _, rfl⟩ := List.mem_map.1 hu
    have h1 : (Value.int kd x).cells = #[.int kd x] := hz kd x rfl
    rw [h1]
    exact ⟨x, by simp [Nat.mod_one]⟩
  | _ => exact trivial
theorem Does.app {P : Program} {w : World} {E : Env} {t ty e : TypeId} {x y : Operand} {z : Value} {size bytes base k m c : Nat} {v : Value} {xs news : List Value} {a : Option Addr} {K : Value → World → Prop}
    (ht : P.underlying t = some (.slice e)) (hi : rowT P e = some (z, size, bytes)) (hsz : 0 < size) (hx : E.ev x = v) (hown : Own w base e z v k xs)
    (hy : E.ev y = .slice a m c) (hR : Row w a news) (hl : news.length = m * size) (hnil : a = none → c = 0) (h1 : news.all one' = true) (hlz : ∀ u ∈ news, likeZ z u)
    (hb : (k + m) * bytes ≤ 140737488355328) (hm : k + m ≤ 4611686018427387904)
    (hk : ∀ v' w', Ext (fun q => some q = v.ownBlock) w w' → Own w' base e z v' (k + m) (xs ++ news) → (v'.ownBlock = v.ownBlock ∨ v'.ownBlock = some w.heap.size) → K v' w') :
    Does P (mkO (.call { callee := .builtin .append, args := #[x, y], argTypes := #[t, t] }) ty) E w K := by
  obtain ⟨i, hinf, hz, hs, hby, hzs⟩ := rowT_spec hi
  have hsz' : z.cells.size = size := hzs
  subst hsz'
  have hzc : ∀ kd x, z = .int kd x → z.cells = #[z] := fun kd x h => by subst h; rfl
  have hrun : ∀ {v' : Value} {w' : World}, (Builtin.append_ #[t, t] ty #[v, .slice a m c]).run P w = .ok v' w' →
      (execOp E.ev (mkO (.call { callee := .builtin .append, args := #[x, y], argTypes := #[t, t] }) ty)).run P w = .ok (.value v') w' := by
    intro v' w' h
    simp [execOp, mkO, resolve, invoke, builtin, hx, hy, h]
  cases a with
  | none =>
    have : news = [] := by
      cases news with
      | nil => rfl
      | cons u us => obtain ⟨ad, e, _⟩ := hR 0 u rfl; cases e
    subst this
    have hm0 : m = 0 := by
      have h0 : m * z.cells.size = 0 := by simpa using hl.symm
      rcases Nat.mul_eq_zero.1 h0 with hl | hl
      · exact hl
      · omega
    subst hm0
    rw [hnil rfl] at hrun
    exact Does.value (hrun (run_append_owned_none (P := P) (w := w) base t ty e i z.cells.size ht hinf v k xs hown.own)) (hk _ _ (Ext.refl _ _) (by simpa using hown) (.inl rfl))
  | some ad =>
    have hnews : ∀ j u, news[j]? = some u → w.cell? (ad.add j) = some u := fun j u hj => by obtain ⟨ad', e', h⟩ := hR j u hj; cases e'; exact h
    have hones : ∀ u ∈ news, u.oneCell' = true := fun u hu => by rw [← one'_iff]; exact List.all_eq_true.1 h1 u hu
    have hlen : (xs ++ news).length = (k + m) * z.cells.size := by rw [List.length_append, hown.own.1, hl, Nat.add_mul]
    -- a new row
    have grown : ∀ (old : Nat), old < k + m → (∀ u ∈ xs, likeZ z u) → (Builtin.append_ #[t, t] ty #[v, .slice (some ad) m c]).run P w = .ok (.slice (some ⟨w.heap.size, 0, none⟩) (k + m) (grownCap w (k + m) old e))
        (w.drew.alloc (.cells (xs.toArray ++ news.toArray ++ Builtin.zeroCells z.cells (grownCap w (k + m) old e - (k + m))) e)) →
        Does P (mkO (.call { callee := .builtin .append, args := #[x, y], argTypes := #[t, t] }) ty) E w K := by
      intro old ho hxl hr
      have hge := grownCap_ge w (k + m) old e
      have hcm := grownCap_le_maxLen w (k + m) old e (by unfold maxLen; omega)
      generalize grownCap w (k + m) old e = cap at *
      have hG : Grow w (w.drew.alloc (.cells (xs.toArray ++ news.toArray ++ Builtin.zeroCells z.cells (cap - (k + m))) e)) := Ext.trans (Grow.drawn w (w.drawn + 1)) (Grow.push w.drew _)
      have hB : Blk (w.drew.alloc (.cells (xs.toArray ++ news.toArray ++ Builtin.zeroCells z.cells (cap - (k + m))) e)) w.heap.size ((xs ++ news) ++ (Builtin.zeroCells z.cells (cap - (k + m))).toList) e := by
        show (w.heap.push (.cells _ e))[w.heap.size]? = _
        simp
      refine Does.value (hrun hr) (hk _ _ hG.any (Own.mk' hB hown.room hlen ?_ hge hcm ?_) (.inr rfl))
      · rw [List.length_append, hlen, Array.length_toList, size_zeroCells, ← Nat.add_mul]
        congr 1; omega
      · intro u hu
        rcases List.mem_append.1 hu with hu | hu
        · exact (List.mem_append.1 hu).elim (hxl u) (hlz u)
        · exact like_zero hzc _ u hu
    rcases own_open hown.own with ⟨rfl, rfl, rfl⟩ | ⟨g, cap, sp, rfl, hbg, hB, hxl, hcl, hkc, hcm⟩
    · by_cases hm0 : m = 0
      · subst hm0
        have hn : news = [] := List.eq_nil_of_length_eq_zero (by simpa using hl)
        subst hn
        refine Does.value (hrun (v' := .slice none 0 0) (w' := w) ?_) (hk _ _ (Ext.refl _ _) (Own.nil hown.room) (.inl rfl))
        simp [Builtin.append_, run_underlying ht, sizeOf, typeInfo, hinf, Builtin.lenOf, Builtin.firstCells, loadCells, loadCellsFrom]
      · have hr := run_append_nil (P := P) w t ty e i z ht hinf hz ad m c news (by rw [hs]; exact hl) hnews (by omega) (by omega) (by rw [hby]; simp only [Nat.zero_add] at hb; omega)
        refine grown 0 (by omega) (fun u hu => by cases hu) ?_
        simpa using hr
    · have htame := hown.tame g _ e _ rfl hB
      by_cases hroom : k + m ≤ cap
      · have hfit : k * i.size + news.length ≤ (xs ++ sp).toArray.size := by
          rw [hs, hl, ← Nat.add_mul]; simp only [List.size_toArray]; rw [hcl]; exact Nat.mul_le_mul_right _ hroom
        have hr := run_append_room (P := P) w t ty e i ht hinf g k cap (xs ++ sp).toArray hB ad m c news (by rw [hs]; exact hl) hnews hones hroom hfit
        have e1 : (xs ++ sp).toArray.toList.take (k * i.size) ++ news ++ (xs ++ sp).toArray.toList.drop (k * i.size + news.length) = (xs ++ news) ++ sp.drop news.length := by
          rw [hs, ← hxl]
          simp [List.drop_append]
        rw [e1] at hr
        have hB' : Blk (w.setRow g ((xs ++ news) ++ sp.drop news.length).toArray) g ((xs ++ news) ++ sp.drop news.length) e := setRow_heap w g _ _ e _ hB
        refine Does.value (hrun hr) (hk _ _ ⟨rfl, rfl, rfl, by simp, fun q hq hn => setRow_other w g q _ (fun h => hn (by subst h; rfl))⟩ (Own.mk' hB' hbg hlen ?_ hroom hcm ?_) (.inl rfl))
        · rw [List.length_append, hlen, List.length_drop, hl]
          rw [List.length_append, hxl] at hcl
          have : (k + m) * z.cells.size ≤ cap * z.cells.size := Nat.mul_le_mul_right _ hroom
          rw [Nat.add_mul] at this ⊢
          omega
        · intro u hu
          rcases List.mem_append.1 hu with hu | hu
          · exact (List.mem_append.1 hu).elim (fun h => htame u (by simp [h])) (hlz u)
          · exact htame u (by simp [List.mem_of_mem_drop hu])
      · have hr := run_append_grow (P := P) w t ty e i z ht hinf hz ⟨g, 0, none⟩ k cap xs (by rw [hs]; exact hxl) (hown.own.cells (g := g) rfl) ad m c news (by rw [hs]; exact hl) hnews (by omega) (by omega) (by rw [hby]; exact growslice_fits (by omega) hb)
        exact grown cap (by omega) (fun u hu => htame u (by simp [hu])) hr

/-! ### words in a row of bytes, laid over -/
theorem splice_ints (k : IntKind) (xs : List Int) (o : Nat) (ys : List Int) : splice (ints k xs) o (ints k ys) = ints k (xs.take o ++ ys ++ xs.drop (o + ys.length)) := by
  simp [splice, ints, List.map_take, List.map_drop]
def over (xs : List Int) (o : Nat) (ys : List Int) : List Int := xs.take o ++ ys ++ xs.drop (o + ys.length)
theorem over_length {xs : List Int} {o : Nat} {ys : List Int} (h : o + ys.length ≤ xs.length) : (over xs o ys).length = xs.length := by
  simp [over]; omega
theorem over_take {xs : List Int} {o : Nat} {ys : List Int} (h : o + ys.length ≤ xs.length) : (over xs o ys).take (o + ys.length) = xs.take o ++ ys := by
  unfold over
  rw [List.take_append_of_le_length (by simp; omega), List.take_of_length_le (by simp; omega)]

/-! ### a digest under way -/
def digC (s wt : List Int) (n : Int) : List Value := .bool true :: (ints .u32 s ++ (ints .u8 wt ++ [.int .i64 n]))
section
variable {s wt : List Int} {n : Int}
theorem digC_length (hs : s.length = 8) (hw : wt.length = 64) : (digC s wt n).length = 74 := by simp [digC, hs, hw]
theorem digC_one : (digC s wt n).all one' = true := by simp [digC, one_ints, one']
theorem digC_made : (digC s wt n)[0]? = some (.bool true) := rfl
theorem digC_n (hs : s.length = 8) (hw : wt.length = 64) : (digC s wt n)[73]? = some (.int .i64 n) := by
  unfold digC
  rw [List.getElem?_cons_succ, List.getElem?_append_right (by simp [hs]), List.getElem?_append_right (by simp [hs, hw])]
  simp [hs, hw]
theorem digC_s (hs : s.length = 8) : ((digC s wt n).drop 1).take 8 = ints .u32 s := by
  unfold digC
  rw [List.drop_succ_cons, List.drop_zero, List.take_left' (by simp [hs])]
theorem digC_w (hs : s.length = 8) (hw : wt.length = 64) : ((digC s wt n).drop 9).take 64 = ints .u8 wt := by
  unfold digC
  rw [List.drop_succ_cons, List.drop_append_of_le_length (by simp [hs]), List.drop_eq_nil_of_le (by simp [hs]), List.nil_append, List.take_left' (by simp [hw])]
theorem digC_at (hs : s.length = 8) (hw : wt.length = 64) {o : Nat} (ho : o ≤ 64) : Value.int .i64 n = .int .i64 n → (digC s wt n).drop (9 + o) = ints .u8 (wt.drop o) ++ [.int .i64 n] := by
  intro _
  unfold digC
  rw [show 9 + o = (8 + o) + 1 by omega, List.drop_succ_cons, show 8 + o = (ints .u32 s).length + o by simp [hs], List.drop_append, List.drop_eq_nil_of_le (by omega), List.nil_append, show (ints IntKind.u32 s).length + o - (ints IntKind.u32 s).length = o by omega, List.drop_append_of_le_length (by simp [hw]; omega), ints_drop]
theorem digC_setN (hs : s.length = 8) (hw : wt.length = 64) (m : Int) : splice (digC s wt n) 73 [.int .i64 m] = digC s wt m := by
  unfold splice digC
  rw [show (73 : Nat) = 72 + 1 from rfl, List.take_succ_cons, List.drop_eq_nil_of_le (by simp [hs, hw]), List.append_nil, List.cons_append]
  congr 1
  rw [← List.append_assoc, List.take_append_of_le_length (by simp [hs, hw]), List.take_of_length_le (by simp [hs, hw]), List.append_assoc]
theorem digC_setS (hs : s.length = 8) {t : List Int} (ht : t.length = 8) : splice (digC s wt n) 1 (ints .u32 t) = digC t wt n := by
  unfold splice digC
  rw [show 1 + (ints .u32 t).length = (ints .u32 s).length + 1 by simp [hs, ht], List.drop_succ_cons, List.drop_left' rfl]
  simp
theorem digC_setW (hs : s.length = 8) (hw : wt.length = 64) {o : Nat} {x : List Int} (ho : o + x.length ≤ 64) : splice (digC s wt n) (9 + o) (ints .u8 x) = digC s (over wt o x) n := by
  unfold splice over
  rw [show (ints .u8 x).length = x.length by simp, show 9 + o + x.length = 9 + (o + x.length) by omega, digC_at hs hw ho rfl]
  unfold digC
  rw [show 9 + o = (8 + o) + 1 by omega, List.take_succ_cons, show 8 + o = (ints .u32 s).length + o by simp [hs], List.take_append, List.take_of_length_le (l := ints .u32 s) (by omega), show (ints IntKind.u32 s).length + o - (ints IntKind.u32 s).length = o by omega,
    List.take_append_of_le_length (by simp [hw]; omega), ints_append, ints_append, ints_take]
  simp [ints_drop]
end

def chunk (m : List Int) (i : Nat) : List Int := (m.drop (64 * i)).take 64
def shaRun (m : List Int) : Nat → List Int
  | 0 => shaInit
  | k + 1 => shaNext (shaRun m k) (chunk m k)
theorem shaRun_length (m : List Int) (k : Nat) : (shaRun m k).length = 8 := by
  induction k with
  | zero => rfl
  | succ k ih => exact shaNext_length ih
theorem chunk_length {m : List Int} {i : Nat} (h : 64 * i + 64 ≤ m.length) : (chunk m i).length = 64 := by simp [chunk]; omega
theorem chunk_append {m x : List Int} {i : Nat} (h : 64 * i + 64 ≤ m.length) : chunk (m ++ x) i = chunk m i := by
  unfold chunk
  rw [List.drop_append_of_le_length (by omega), List.take_append_of_le_length (by simp; omega)]
theorem shaRun_append {m x : List Int} {k : Nat} (h : 64 * k ≤ m.length) : shaRun (m ++ x) k = shaRun m k := by
  induction k with
  | zero => rfl
  | succ k ih => rw [shaRun, shaRun, ih (by omega), chunk_append (by omega)]
/-- what a digest under way holds of the bytes m -/
structure DigS (m s wt : List Int) (n : Int) : Prop where
  hn : n = m.length
  hs : s = shaRun m (m.length / 64)
  hl : wt.length = 64
  hw : wt.take (m.length % 64) = m.drop (64 * (m.length / 64))
theorem DigS.ls {m s wt : List Int} {n : Int} (h : DigS m s wt n) : s.length = 8 := by rw [h.hs]; exact shaRun_length _ _
theorem DigS.first : DigS [] shaInit (zer 64) 0 := ⟨rfl, rfl, rfl, rfl⟩
theorem DigS.some {m s wt x : List Int} {n : Int} (h : DigS m s wt n) (hx : m.length % 64 + x.length < 64) : DigS (m ++ x) s (over wt (m.length % 64) x) (n + x.length) := by
  have e1 : (m ++ x).length / 64 = m.length / 64 := by rw [List.length_append]; omega
  have e2 : (m ++ x).length % 64 = m.length % 64 + x.length := by rw [List.length_append]; omega
  refine ⟨by rw [h.hn]; simp, ?_, by rw [over_length (by rw [h.hl]; omega)]; exact h.hl, ?_⟩
  · rw [e1, shaRun_append (by omega)]; exact h.hs
  · rw [e1, e2, over_take (by rw [h.hl]; omega), h.hw, List.drop_append_of_le_length (by omega)]
theorem DigS.full {m s wt x : List Int} {n : Int} (h : DigS m s wt n) (hx : m.length % 64 + x.length = 64) : DigS (m ++ x) (shaNext s (over wt (m.length % 64) x)) (over wt (m.length % 64) x) (n + x.length) := by
  have hxl : 64 * (m.length / 64) + 64 = (m ++ x).length := by rw [List.length_append]; omega
  have e1 : (m ++ x).length / 64 = m.length / 64 + 1 := by omega
  have e2 : (m ++ x).length % 64 = 0 := by omega
  refine ⟨by rw [h.hn]; simp, ?_, by rw [over_length (by rw [h.hl]; omega)]; exact h.hl, ?_⟩
  · rw [e1, shaRun, shaRun_append (by omega), ← h.hs]
    congr 1
    have h1 := over_take (xs := wt) (o := m.length % 64) (ys := x) (by rw [h.hl]; omega)
    rw [hx, h.hw, List.take_of_length_le (by rw [over_length (by rw [h.hl]; omega), h.hl]; omega)] at h1
    rw [h1]; unfold chunk
    rw [List.drop_append_of_le_length (by omega), List.take_of_length_le (by simp; omega)]
  · rw [e1, e2, List.take_zero, List.drop_eq_nil_of_le (by omega)]

theorem zer_snoc (k : Nat) : zer k ++ [0] = zer (k + 1) := by simp [zer, List.replicate_succ']
/-- an array filled from the front -/
def built (f : Nat → Int) (n i : Nat) : List Int := (List.range i).map f ++ zer (n - i)
theorem built_length {f : Nat → Int} {n i : Nat} (h : i ≤ n) : (built f n i).length = n := by simp [built, zer_length]; omega
theorem built_zero (f : Nat → Int) (n : Nat) : built f n 0 = zer n := by simp [built]
theorem built_all (f : Nat → Int) (n : Nat) : built f n n = (List.range n).map f := by simp [built, zer]
theorem built_set {f : Nat → Int} {n i : Nat} {v : Int} (h : i < n) (hv : v = f i) : (built f n i).set i v = built f n (i + 1) := by
  unfold built
  rw [List.set_append_right _ _ (by simp), show n - i = (n - (i + 1)) + 1 by omega, List.range_succ]
  simp [zer, List.replicate_succ, hv]
theorem map_rd (s : List Int) (n : Nat) (h : n ≤ s.length) : (List.range n).map (fun i : Nat => rd s i) = s.take n := by
  apply List.ext_getElem
  · simp [h]
  · intro i h1 h2
    simp at h1
    simp [rd, List.getD_eq_getElem?_getD, show i < s.length by omega]

/-! ### the padding -/
def be8 (n : Int) : Nat → List Int
  | 0 => []
  | k + 1 => be8 n k ++ [IntKind.u8.wrap (sShr .i64 n (56 - 8 * k))]
theorem be8_length (n : Int) (k : Nat) : (be8 n k).length = k := by induction k <;> simp_all [be8]
def shaPad (n : Nat) : List Int := (128 :: zer ((119 - n % 64) % 64)) ++ be8 (8 * n) 8
def fill (m : List Int) : List Int := m ++ shaPad m.length
theorem shaPad_length (n : Nat) : (shaPad n).length = 9 + (119 - n % 64) % 64 := by simp [shaPad, be8_length, zer_length]; omega
theorem fill_length (m : List Int) : (fill m).length % 64 = 0 := by
  unfold fill
  rw [List.length_append, shaPad_length]
  omega
def beOut (w : Int) : List Int := [IntKind.u8.wrap (sShr .u32 w 24), IntKind.u8.wrap (sShr .u32 w 16), IntKind.u8.wrap (sShr .u32 w 8), IntKind.u8.wrap w]
def shaFin (s : List Int) : List Int := s.flatMap beOut
def sha (m : List Int) : List Int := shaFin (shaRun (fill m) ((fill m).length / 64))
theorem flat_length (s : List Int) : (shaFin s).length = 4 * s.length := by
  induction s with
  | nil => rfl
  | cons x s ih => simp only [shaFin, List.flatMap_cons, List.length_append, List.length_cons] at ih ⊢; rw [ih]; simp [beOut]; omega
theorem sha_length (m : List Int) : (sha m).length = 32 := by rw [sha, flat_length, shaRun_length]
/-- the name: the first sixteen -/
def shaID (m : List Int) : List Int := (sha m).take 16
theorem shaID_length (m : List Int) : (shaID m).length = 16 := by simp [shaID, sha_length]
theorem sShr_zero (k : IntKind) (x : Int) : sShr k x 0 = x := by simp [sShr]
theorem fin_at {s : List Int} (hs : s.length = 8) {i : Nat} (h : i < 32) : IntKind.u8.wrap (sShr .u32 (rd s ((i : Int).tdiv 4)) (24 - 8 * ((i : Int).tmod 4))) = rd (shaFin s) i := by
  match s, hs with
  | [s0, s1, s2, s3, s4, s5, s6, s7], _ =>
    match i, h with
    | 3, _ | 7, _ | 11, _ | 15, _ | 19, _ | 23, _ | 27, _ | 31, _ => exact congrArg IntKind.u8.wrap (sShr_zero .u32 _)
    | 0, _ | 1, _ | 2, _ | 4, _ | 5, _ | 6, _ | 8, _ | 9, _ | 10, _ | 12, _ | 13, _ | 14, _ | 16, _ | 17, _ | 18, _ | 20, _ | 21, _ | 22, _ | 24, _ | 25, _ | 26, _ | 28, _ | 29, _ | 30, _ => rfl
    | k + 32, h => omega
/-- what the words laid out so far are -/
def outAt (s : List Int) : Nat → List Int
  | 0 => zer 32
  | k + 1 => over (outAt s k) (4 * k) (beOut (rd s k))
theorem outAt_length (s : List Int) (k : Nat) (h : k ≤ 8) : (outAt s k).length = 32 := by
  induction k with
  | zero => rfl
  | succ k ih => rw [outAt, over_length (by rw [ih (by omega)]; simp [beOut]; omega), ih (by omega)]
theorem outAt_take (s : List Int) (hs : s.length = 8) (k : Nat) (h : k ≤ 8) : (outAt s k).take (4 * k) = shaFin (s.take k) := by
  induction k with
  | zero => rfl
  | succ k ih =>
    have l := outAt_length s k (by omega)
    have hb : (beOut (rd s k)).length = 4 := rfl
    rw [outAt, show 4 * (k + 1) = 4 * k + (beOut (rd s k)).length by omega, over_take (by omega), ih (by omega), List.take_succ_eq_append_getElem (l := s) (by omega)]
    unfold shaFin
    rw [List.flatMap_append]
    simp [rd, List.getD_eq_getElem?_getD, show k < s.length by omega]
theorem outAt_all (s : List Int) (hs : s.length = 8) : outAt s 8 = shaFin s := by
  have := outAt_take s hs 8 (Nat.le_refl _)
  rwa [List.take_of_length_le (by rw [outAt_length s 8 (Nat.le_refl _)]; decide), List.take_of_length_le (by omega)] at this
end Go.Sat
end
section
namespace Go.Sat
open Go

def cat2n (m n : Nat) : Nat → Nat
  | 0 => 0
  | 1 => m
  | _ => m + n
def cat2 (xs ys : List Int) : Nat → List Int
  | 0 => []
  | 1 => xs
  | _ => xs ++ ys
section
variable {P : Program} {w : World} {E : Env}
/-- append(nil, make([]T, m)...) -/
theorem Does.growNil {t tn ty e : TypeId} {x y : Operand} {k kn : IntKind} {z : Value} {bytes m : Nat} {K : Value → World → Prop} (ht : P.underlying t = some (.slice e)) (htn : P.underlying tn = some (.int kn))
    (hi : rowT P e = some (z, 1, bytes)) (hx : E.ev x = .slice none 0 0) (hy : E.ev y = .int k (m : Int)) (h0 : 0 < m) (hm : m ≤ 4611686018427387904) (hb : m * bytes ≤ 281474976710656)
    (hk : ∀ b c w', w.heap.size = b → Grow w w' → m ≤ c → (∀ cap, cap = c → Own w' b e z (.slice (some ⟨b, 0, none⟩) 0 c) 0 []) → K (.slice (some ⟨b, 0, none⟩) m c) w') :
    Does P (mkO (.call { callee := .builtin .append, args := #[x, y], argTypes := #[t, tn] }) ty) E w K := by
  obtain ⟨i, hinf, hz, hs, hby, hzs⟩ := rowT_spec hi
  have hrun := Go.Lib.run_append_nil_zeros (P := P) w t tn ty e i z k kn ht htn hinf hz m h0 (by omega) (by omega) (by rw [hby]; exact hb)
  have hc1 := grownCap_ge w m 0 e
  have hc2 := grownCap_le_maxLen w m 0 e (by unfold maxLen; omega)
  generalize hcap : grownCap w m 0 e = cap at *
  generalize hcs : Builtin.zeroCells z.cells m ++ Builtin.zeroCells z.cells (cap - m) = cs at *
  have hsz : cs.size = cap := by rw [← hcs]; simp [Builtin.zeroCells, hzs]; omega
  have hG : Grow w (w.drew.alloc (.cells cs e)) := Ext.trans (Grow.drawn w (w.drawn + 1)) (Grow.push w.drew (.cells cs e))
  have hB : Blk (w.drew.alloc (.cells cs e)) w.heap.size ([] ++ cs.toList) e := by
    show (w.heap.push (.cells cs e))[w.heap.size]? = some (.cells cs.toList.toArray e (0, 0))
    simp
  refine Does.value (v := .slice (some ⟨w.heap.size, 0, none⟩) m cap) (w' := w.drew.alloc (.cells cs e)) ?_ (hk _ _ _ rfl hG hc1 fun _ _ => Own.mk' (xs := []) hB (Nat.le_refl _) (by simp) (by simp [hsz, hzs]) (Nat.zero_le _) hc2 (fun u hu => ?_))
  · simp [execOp, mkO, resolve, invoke, builtin, hx, hy, hrun]
  · have hzc : ∀ kd x, z = .int kd x → z.cells = #[z] := fun kd x h => by subst h; rfl
    rw [← hcs] at hu
    simp only [List.nil_append, Array.toList_append] at hu
    exact (List.mem_append.1 hu).elim (like_zero hzc _ u) (like_zero hzc _ u)
/-- a slice written out, of values that are known by equations -/
theorem Does.buildSlice2 {t ty e : TypeId} {len : Nat} {parts : Array (Nat × Operand)} {cs : List Value} {K : Value → World → Prop} (ps ps' : List (Nat × Value)) (ht : P.underlying t = some (.slice e))
    (h1 : (parts.map fun (i, x) => (i, E.ev x)).toList = ps) (h2 : ps = ps') (hf : fillOf P e len ps' = some cs.toArray)
    (hk : ∀ b w', w.heap.size = b → Grow w w' → Blk w' b cs e → K (.slice (some ⟨b, 0, none⟩) len len) w') : Does P (mkO (.buildSlice t len parts) ty) E w K :=
  Does.buildSlice ht (by rw [h1, h2]; exact hf) hk
/-- an operation that looks at no memory, out of the reckoner -/
theorem Does.chk {o : Oper} {v : Value} {C : Prop} {K : Value → World → Prop} (h : chkOp P E o = some (v, C)) (hC : C) (hk : K v w) : Does P o E w K := Does.value (chkOp_spec h hC w) hk
theorem withVals_one {t k : Nat} {us : Nat → Value} {E : Env} {v : Value} (h : us t = v) : withVals [(t, k)] us E = (t, v) :: E := by subst h; rfl
theorem withVals_two {t k t2 k2 : Nat} {us : Nat → Value} {E : Env} {v v2 : Value} (h : us t = v) (h2 : us t2 = v2) : withVals [(t, k), (t2, k2)] us E = (t, v) :: (t2, v2) :: E := by subst h; subst h2; rfl
/-- a struct or an array written out, by what it comes to -/
theorem Does.build {t ty : TypeId} {parts : Array (Nat × Operand)} {v : Value} {K : Value → World → Prop} (ps : Array (Nat × Value)) (h1 : (parts.map fun (i, x) => (i, E.ev x)) = ps) (hb : pureRun P (Instr.build t ps) = some v) (hk : K v w) :
    Does P (mkO (.build t parts) ty) E w K := by
  refine Does.value (v := v) (w' := w) (run_v ?_) hk
  show (Instr.build t (parts.map fun (i, x) => (i, E.ev x))).run P w = _
  rw [h1]; exact pureRun_run hb w
/-- cells of a row, as one value -/
theorem row_agg {T : TypeId} {A : Addr} {cs : List Value} (hR : Row w (some A) cs) (hT : aggT P T = true) (hs : P.cellsOf T = cs.length) : (loadVar T A).run P w = .ok (.agg cs.toArray) w :=
  loadVar_agg hT hs fun j v hj => by obtain ⟨ad, e, h⟩ := hR j v hj; cases e; exact h
/-- a part of a row, with an address -/
theorem cut_some {A : Addr} {l m size : Nat} (h : l < m) : ∃ A', cutA (some A) l m size = some A' ∧ A'.block = A.block := by
  unfold cutA; rw [if_neg (by omega)]; exact ⟨_, rfl, by simp⟩
end
end Go.Sat
end
section
namespace Go.Sat
open Go

/-- the record of a loop over a function -/
def LoopAt (w : World) (l : Nat) (rec : Loop) : Prop := w.heap[l]? = some (.loop rec)
theorem LoopAt.lt {w : World} {l : Nat} {rec : Loop} (h : LoopAt w l rec) : l < w.heap.size := (Array.getElem?_eq_some_iff.1 h).1
theorem LoopAt.ext {S : Nat → Prop} {w w' : World} {l : Nat} {rec : Loop} (h : LoopAt w l rec) (he : Ext S w w') (hn : ¬ S l) : LoopAt w' l rec := (he.same l h.lt hn).trans h
theorem LoopAt.up {w w' : World} {l : Nat} {rec : Loop} (h : LoopAt w l rec) (he : Grow w w') : LoopAt w' l rec := h.ext he id
theorem LoopAt.ne {w w' : World} {l c : Nat} {rec : Loop} (h : LoopAt w l rec) (he : Ext1 c w w') (hn : l ≠ c) : LoopAt w' l rec := h.ext he hn
/-- the block of calls that rounds defer, with none in it -/
def NoneAt (w : World) (b : Nat) : Prop := w.heap[b]? = some (.deferred (some []))
theorem NoneAt.lt {w : World} {b : Nat} (h : NoneAt w b) : b < w.heap.size := (Array.getElem?_eq_some_iff.1 h).1
theorem NoneAt.ext {S : Nat → Prop} {w w' : World} {b : Nat} (h : NoneAt w b) (he : Ext S w w') (hn : ¬ S b) : NoneAt w' b := (he.same b h.lt hn).trans h
theorem NoneAt.up {w w' : World} {b : Nat} (h : NoneAt w b) (he : Grow w w') : NoneAt w' b := h.ext he id
theorem NoneAt.ne {w w' : World} {b c : Nat} (h : NoneAt w b) (he : Ext1 c w w') (hn : b ≠ c) : NoneAt w' b := h.ext he hn
theorem putObj_ext (w : World) (l : Nat) (o : Obj) : Ext1 l w (w.putObj l o) := ⟨rfl, rfl, rfl, by simp, fun k _ hn => World.putObj_heap_other hn⟩

/-- a round's contract: yield is called, and hands back -/
def Round (P : Program) (l : Nat) (rec : Loop) (args : List Value) (w : World) (R : Value → World → Prop) : Prop :=
  ∀ r, RoundIn (FW r) 0 P l rec.fn ((rec.params.zip args.toArray).foldl (fun tmps (t, a) => tmps.setIfInBounds t a) rec.tmps) rec.assign rec.body w (fun e w' => ∃ v, e = .returned v ∧ R v w')
section
variable {r : Option Nat} {P : Program} {n : Nat} {ds : List Deferred} {ops : Array Oper} {Q : Exit → Act → World → Prop} {w : World} {E : Env}

theorem W.label {l : Nat} (h : ∀ a, At n ds E a → Q .normal a w) : W r P n ds (.label l) E Q w := fun a ha => wpIn_label (h a ha)
theorem W.scope {c : Code} (h : W none P n ds c E (Exit.noGoto Q) w) : W none P n ds (.scope c) E Q w := fun a ha => (Go.wpIn_wide (n := 0)).2 (wp_scope_straight ((Go.wpIn_wide (n := 0)).1 (h a ha)))
theorem endN_scope (h : ∀ a, At n ds E a → Q .normal a w) : ∀ a, At n ds E a → Exit.noGoto Q .normal a w := h
theorem endR_scope (h : ∀ a, At n ds E a → Q .ret a w) : ∀ a, At n ds E a → Exit.noGoto Q .ret a w := h
theorem endX_scope {i : Nat} (h : ∀ a, At n ds E a → Q (.exit i) a w) : ∀ a, At n ds E a → Exit.noGoto Q (.exit i) a w := h
/-- yield is called -/
theorem WR.round {k : Nat} {x : Operand} {xs : Array Operand} {tys : Array TypeId} {ty : TypeId} {dst : Option Tmp} {l : Nat} {rec : Loop} {args : List Value} {R : Value → World → Prop}
    (hl : look ops n k E = some (.call { callee := .value x, args := xs, argTypes := tys }, ty, dst)) (hx : E.ev x = .func (.yield l) #[] #[]) (hxs : xs.map E.ev = args.toArray) (hL : LoopAt w l rec)
    (hsz : args.length = rec.params.size) (hr : Round P l rec args w R) (next : ∀ v w', R v w' → WR r P n ds ops (k + 1) (E.put dst v) Q w') : WR r P n ds ops k E Q w := by
  obtain ⟨o, ho, hw, hf, hop, rfl, rfl⟩ := look_spec hl
  intro a ha
  rw [drop_cons ho]
  obtain ⟨h1, h2⟩ := opFine_spec (r := r) ha hf
  unfold wpListIn
  rw [if_pos (wantedE_spec ha hw)]
  refine ⟨about_FW, ?_⟩
  have hrun : (execOp E.ev o).run P w = .ok (.round l rec.fn ((rec.params.zip args.toArray).foldl (fun tmps (t, a) => tmps.setIfInBounds t a) rec.tmps) rec.assign rec.body) w := by
    have hy := run_yield (P := P) (args := args.toArray) hL (by simpa using hsz)
    rw [execOp_mkO, hop]
    simp only [execOp, mkO, resolve, hx, hxs, Deferred.ofValue, Sem.run_bind, Sem.run_pure, Result.andThen_ok, invoke, Array.empty_append]
    exact hy
  rw [show (FW r).round = r from rfl, h1, hrun]
  refine ⟨fun h => by simp [FW] at h, RoundIn.mono (hr r) ?_⟩
  rintro e w2 ⟨v, rfl, hk⟩
  exact next v w2 hk _ (ha.put _ _ h2)

/-- the frame of a round: yield's temporaries -/
theorem at_round {ps : List Nat} {args : List Value} {tmps : Array Value} {E0 E' : Env} (hE : ∀ a : Act, a.tmps = tmps → At n a.defers E0 a) (hp : ((ps.zip args).foldl (fun e (t, v) => e.put (some t) v) E0) = E') (hb : ps.all (fun t => Nat.blt t n) = true) :
    At n [] E' { tmps := (ps.toArray.zip args.toArray).foldl (fun tmps (t, a) => tmps.setIfInBounds t a) tmps, defers := [] } := by
  have h0 : At n [] E0 { tmps := tmps, defers := [] } := hE { tmps := tmps, defers := [] } rfl
  subst hp
  have key : ∀ (l : List (Nat × Value)) (E : Env) (tmps : Array Value), (∀ x ∈ l, x.1 < n) → At n [] E { tmps := tmps, defers := [] } →
      At n [] (l.foldl (fun e (t, v) => e.put (some t) v) E) { tmps := l.foldl (fun tmps (t, a) => tmps.setIfInBounds t a) tmps, defers := [] } := by
    intro l
    induction l with
    | nil => intro E tmps _ h; exact h
    | cons x l ih =>
      intro E tmps hl h
      have hx : x.1 < n := hl x (List.mem_cons_self ..)
      have := h.put (some x.1) x.2 (by simpa [dstOk, Nat.blt_eq] using hx)
      exact ih _ _ (fun y hy => hl y (List.mem_cons_of_mem _ hy)) this
  have hz : (ps.toArray.zip args.toArray) = (ps.zip args).toArray := by simp
  rw [hz, List.foldl_toArray]
  refine key _ _ _ (fun x hx => ?_) h0
  have := List.all_eq_true.1 hb x.1 (List.of_mem_zip hx).1
  simpa [Nat.blt_eq] using this

/-- a round's contract, out of its code's walk -/
theorem Round.of {l : Nat} {rec : Loop} {args : List Value} {R : Value → World → Prop} (ps : List Nat) (hps : rec.params = ps.toArray) {E0 : Env} (hE : ∀ a : Act, a.tmps = rec.tmps → At n a.defers E0 a) (E' : Env) (hp : ((ps.zip args).foldl (fun e (t, v) => e.put (some t) v) E0) = E')
    (hb : ps.all (fun t => Nat.blt t n) = true)
    (h : W (some l) P n [] rec.assign E' (Exit.then (fun a₁ w₁ => ∃ w₂, (Instr.beginRound l).run P w₁ = .ok () w₂ ∧ rec.body.wpIn (FW (some l)) 0 P (roundPost P l (fun e w' => ∃ v, e = .returned v ∧ R v w')) a₁ w₂) (fun _ _ _ => False)) w) :
    Round P l rec args w R := by
  intro r
  refine roundIn_of_wpIn (F := FW r) trivial ?_
  rw [hps]
  exact h _ (at_round hE hp hb)
theorem round_begin {l : Nat} {rec : Loop} {body : Code} {K : Exit → Act → World → Prop} (hL : LoopAt w l rec) (hs : rec.state = .ready)
    (h : ∀ w', Ext1 l w w' → w'.heap.size = w.heap.size → LoopAt w' l { rec with state := .busy } → W (some l) P n ds body E K w') :
    ∀ a, At n ds E a → Exit.then (fun a₁ w₁ => ∃ w₂, (Instr.beginRound l).run P w₁ = .ok () w₂ ∧ body.wpIn (FW (some l)) 0 P K a₁ w₂) (fun _ _ _ => False) .normal a w :=
  fun a ha => ⟨_, run_beginRound hL hs, h _ (putObj_ext _ _ _) (by simp) (World.putObj_heap_same hL.lt) a ha⟩
theorem round_end {l : Nat} {rec : Loop} {R : Value → World → Prop} (hL : LoopAt w l rec)
    (h : ∀ w', Ext1 l w w' → w'.heap.size = w.heap.size → LoopAt w' l { rec with state := .ready, pending := none } → R (.bool true) w') :
    ∀ a, At n ds E a → roundPost P l (fun e w' => ∃ v, e = .returned v ∧ R v w') .normal a w :=
  fun _ _ => ⟨_, _, run_endRound none hL, _, rfl, h _ (putObj_ext _ _ _) (by simp) (World.putObj_heap_same hL.lt)⟩

/-- the statement itself, at an outermost loop -/
theorem W.range {g : Operand} {ps : Array Tmp} {assign body : Code} {f : FuncId} {caps : Array Value} (hc : E.covers g = true) (hg : E.ev g = .func (.func f) #[] caps) (hi : ∀ y, pureRun P (callFunc f (#[y] ++ caps)) = some (.enter f (#[y] ++ caps)))
    (h : ∀ (tmps : Array Value) (fn : FuncId) (w1 : World) (d l : Nat), (∀ a : Act, a.tmps = tmps → At n a.defers E a) → w.heap.size = d → Grow w w1 → NoneAt w1 d → l = d + 1 → LoopAt w1 l { state := .ready, pending := none, fn, tmps, params := ps, assign, body, defers := d } →
      Ret P f (#[.func (.yield l) #[] #[]] ++ caps) w1 (fun _ w3 => ∃ rec', LoopAt w3 l rec' ∧ rec'.state ≠ .busy ∧ rec'.pending = none ∧
        ∀ w4, Ext1 l w3 w4 → w4.heap.size = w3.heap.size → ∀ a, At n ({ target := .collected d, args := #[] } :: ds) E a → Q .normal a w4)) :
    W none P n ds (.rangeFunc g ps assign body) E Q w := by
  intro a ha
  refine wpIn_rangeFunc (F := FW none) (n := 0) fun fn _ => ?_
  have hat : ∀ a' : Act, a'.tmps = a.tmps → At n a'.defers E a' := fun a' e => ⟨by rw [e]; exact ha.size, rfl, fun t ht => by rw [e]; exact ha.slot t ht⟩
  have hev : a.eval g = .func (.func f) #[] caps := by rw [ha.eval hc]; exact hg
  refine ⟨w.heap.size + 1, [{ target := .collected w.heap.size, args := #[] }], (w.alloc (.deferred (some []))).alloc (.loop { state := .ready, pending := none, fn, tmps := a.tmps, params := ps, assign, body, defers := w.heap.size }),
    { target := .fn (.func f) caps, args := #[.func (.yield (w.heap.size + 1)) #[] #[]] }, (w.alloc (.deferred (some []))).alloc (.loop { state := .ready, pending := none, fn, tmps := a.tmps, params := ps, assign, body, defers := w.heap.size }),
    f, #[.func (.yield (w.heap.size + 1)) #[] #[]] ++ caps, (w.alloc (.deferred (some []))).alloc (.loop { state := .ready, pending := none, fn, tmps := a.tmps, params := ps, assign, body, defers := w.heap.size }),
    run_enterLoop_outer fn a.tmps ps assign body, ?_, fun _ _ => trivial, ?_, fun h => by simp [FW] at h, ?_⟩
  · have hy : a.eval (.const (.func (.yield (w.heap.size + 1)) #[] #[])) = .func (.yield (w.heap.size + 1)) #[] #[] := rfl
    simp [resolve, hev, hy, Deferred.ofValue]
  · have := pureRun_run (hi (.func (.yield (w.heap.size + 1)) #[] #[])) ((w.alloc (.deferred (some []))).alloc (.loop { state := .ready, pending := none, fn, tmps := a.tmps, params := ps, assign, body, defers := w.heap.size }))
    simpa [invoke] using this
  · have hG1 : Grow w (w.alloc (.deferred (some []))) := Grow.push w _
    have hG2 : Grow (w.alloc (.deferred (some []))) ((w.alloc (.deferred (some []))).alloc (.loop { state := .ready, pending := none, fn, tmps := a.tmps, params := ps, assign, body, defers := w.heap.size })) := Grow.push _ _
    have hD : NoneAt (w.alloc (.deferred (some []))) w.heap.size := World.alloc_heap_new w _
    have hsz : (w.alloc (.deferred (some []))).heap.size = w.heap.size + 1 := by simp
    have hL := World.alloc_heap_new (w.alloc (.deferred (some []))) (.loop { state := .ready, pending := none, fn, tmps := a.tmps, params := ps, assign, body, defers := w.heap.size })
    rw [hsz] at hL
    have := h a.tmps fn _ w.heap.size (w.heap.size + 1) hat rfl (hG1.trans hG2) (hD.up hG2) rfl hL
    refine (callsIn_FW none).2 (Calls.mono this ?_)
    rintro e w3 ⟨v, rfl, rec', hL', hb, hp, hk⟩
    refine ⟨none, _, by rw [← hp]; exact run_endLoop hL' hb, hk _ (putObj_ext _ _ _) (by simp) _ ⟨ha.size, by show _ ++ a.defers = _; rw [ha.defers]; rfl, ha.slot⟩⟩

/-- a function's contract, where its body holds one range over a function -/
theorem Ret.ofM {f : FuncId} {fn : Func} {c : Code} {args : List Value} {R : Value → World → Prop} (hf : P.funcs[f]? = some fn) (hb : fn.body = some c) (hn : fn.ntmps = n) (hl : args.length ≤ n)
    (h : W none P n [] c (argEnv 0 args) (bodyPostM (FW none) 0 P fn fun e w' => ∃ v, e = .returned v ∧ R v w') w) : Ret P f args.toArray w R := by
  refine (callsIn_FW (n := 0) none).1 (callsIn_of_wp_marks hf hb trivial (h _ ⟨?_, rfl, fun t ht => ?_⟩) rfl)
  · simp [hn]; omega
  · obtain ⟨_, h2⟩ := argEnv_has 0 args t ht
    have hlt : t < args.length := (List.getElem?_eq_some_iff.1 h2).1
    rw [Array.getElem?_append_left (by simpa using hlt)]
    simpa using h2
/-- .. its end, behind the loop -/
theorem fin_retM {fn : Func} {R : Value → World → Prop} {d : Nat} (hD : NoneAt w d) (h : ∀ w', Ext1 d w w' → w'.heap.size = w.heap.size → ∃ vs, ResE w' P E fn.results.toList vs ∧ R (packed vs) w') :
    ∀ a, At n [{ target := .collected d, args := #[] }] E a → bodyPostM (FW none) 0 P fn (fun e w' => ∃ v, e = .returned v ∧ R v w') .ret a w := by
  intro a ha
  obtain ⟨vs, hr, hR⟩ := h _ (putObj_ext w d (.deferred none)) (by simp)
  show LeavesInM _ _ _ _ _ _ a.defers .returning w
  rw [ha.defers]
  have ha' : At n a.defers E a := ⟨ha.size, rfl, ha.slot⟩
  exact ⟨by simp, .inl ⟨d, _, rfl, run_takeDeferred hD, _, run_results ha' hr, _, rfl, hR⟩⟩
end
end Go.Sat
end
section
namespace Go.Sat
open Go

/-! ### arrays of whole numbers -/
structure Arr (n : Nat) where
  l : List Int
  h : l.length = n
deriving DecidableEq
def Arr.zero (n : Nat) : Arr n := ⟨List.replicate n 0, List.length_replicate⟩
def Arr.set {n : Nat} (a : Arr n) (i : Nat) (v : Int) : Arr n := ⟨a.l.set i v, by rw [List.length_set, a.h]⟩
def Arr.of (n : Nat) (l : List Int) : Arr n := ⟨(l ++ List.replicate n 0).take n, by rw [List.length_take, List.length_append, List.length_replicate]; omega⟩
theorem Arr.ext' {n : Nat} {a b : Arr n} (h : a.l = b.l) : a = b := by cases a; cases b; cases h; rfl
theorem Arr.of_self {n : Nat} {l : List Int} (h : l.length = n) : Arr.of n l = ⟨l, h⟩ := Arr.ext' (by simp [Arr.of, ← h])
theorem Arr.of_l {n : Nat} {l : List Int} (h : l.length = n) : (Arr.of n l).l = l := by rw [Arr.of_self h]

/-! ### two lists, element by element -/
def All2 {α β : Type} (R : α → β → Prop) : List α → List β → Prop
  | [], [] => True
  | a :: l, b :: m => R a b ∧ All2 R l m
  | _, _ => False
section
variable {α β : Type} {R S : α → β → Prop}
theorem All2.length {l : List α} {m : List β} (h : All2 R l m) : l.length = m.length := by
  induction l generalizing m with
  | nil => cases m <;> simp_all [All2]
  | cons a l ih => cases m with
    | nil => cases h
    | cons b m => simp [ih h.2]
theorem All2.mono (hs : ∀ a b, R a b → S a b) {l : List α} {m : List β} (h : All2 R l m) : All2 S l m := by
  induction l generalizing m with
  | nil => cases m <;> simp_all [All2]
  | cons a l ih => cases m with
    | nil => cases h
    | cons b m => exact ⟨hs _ _ h.1, ih h.2⟩
theorem All2.mono' {l : List α} {m : List β} (hs : ∀ a b, b ∈ m → R a b → S a b) (h : All2 R l m) : All2 S l m := by
  induction l generalizing m with
  | nil => cases m <;> simp_all [All2]
  | cons a l ih => cases m with
    | nil => cases h
    | cons b m => exact ⟨hs _ _ (List.mem_cons_self ..) h.1, ih (fun a b hb => hs a b (List.mem_cons_of_mem _ hb)) h.2⟩
theorem All2.get {l : List α} {m : List β} (h : All2 R l m) {i : Nat} {b : β} (hb : m[i]? = some b) : ∃ a, l[i]? = some a ∧ R a b := by
  induction l generalizing m i with
  | nil => cases m <;> simp_all [All2]
  | cons a l ih => cases m with
    | nil => cases h
    | cons c m => cases i with
      | zero => simp at hb; subst hb; exact ⟨a, rfl, h.1⟩
      | succ i => exact ih h.2 (by simpa using hb)
theorem All2.getl {l : List α} {m : List β} (h : All2 R l m) {i : Nat} {a : α} (hb : l[i]? = some a) : ∃ b, m[i]? = some b ∧ R a b := by
  induction l generalizing m i with
  | nil => simp at hb
  | cons c l ih => cases m with
    | nil => cases h
    | cons b m => cases i with
      | zero => simp at hb; subst hb; exact ⟨b, rfl, h.1⟩
      | succ i => exact ih h.2 (by simpa using hb)
theorem All2.app {l l' : List α} {m m' : List β} (h : All2 R l m) (h' : All2 R l' m') : All2 R (l ++ l') (m ++ m') := by
  induction l generalizing m with
  | nil => cases m with
    | nil => exact h'
    | cons b m => cases h
  | cons a l ih => cases m with
    | nil => cases h
    | cons b m => exact ⟨h.1, ih h.2⟩
theorem All2.take {l : List α} {m : List β} (h : All2 R l m) (n : Nat) : All2 R (l.take n) (m.take n) := by
  induction l generalizing m n with
  | nil => cases m with
    | nil => simp [All2]
    | cons b m => cases h
  | cons a l ih => cases m with
    | nil => cases h
    | cons b m => cases n with
      | zero => simp [All2]
      | succ n => exact ⟨h.1, ih h.2 n⟩
theorem All2.drop {l : List α} {m : List β} (h : All2 R l m) (n : Nat) : All2 R (l.drop n) (m.drop n) := by
  induction l generalizing m n with
  | nil => cases m with
    | nil => simp [All2]
    | cons b m => cases h
  | cons a l ih => cases m with
    | nil => cases h
    | cons b m => cases n with
      | zero => exact h
      | succ n => exact ih h.2 n
theorem All2.set {l : List α} {m : List β} (h : All2 R l m) {i : Nat} {a : α} {b : β} (hr : R a b) : All2 R (l.set i a) (m.set i b) := by
  induction l generalizing m i with
  | nil => cases m with
    | nil => simp [All2]
    | cons b m => cases h
  | cons c l ih => cases m with
    | nil => cases h
    | cons d m => cases i with
      | zero => exact ⟨hr, h.2⟩
      | succ i => exact ⟨h.1, ih h.2⟩
end

/-! ### types of contents -/
inductive Ty
  | int (k : IntKind) | bool | str | raw | arr (k : IntKind) (n : Nat) | pr (a b : Ty) | sl (t : Ty)
deriving DecidableEq
@[reducible] def Ty.den : Ty → Type
  | .int _ => Int
  | .bool => Bool
  | .str => ByteArray
  | .raw => Value
  | .arr _ n => Arr n
  | .pr a b => a.den × b.den
  | .sl t => List t.den
def Ty.size : Ty → Nat
  | .arr _ n => n
  | .pr a b => a.size + b.size
  | _ => 1

/-- Cells say x; the blocks in which more of it lies are there, and none of N. -/
def RepD (N : Nat → Prop) (w : World) : (t : Ty) → List Value → t.den → Prop
  | .int k, cs, x => cs = [.int k x]
  | .bool, cs, x => cs = [.bool x]
  | .str, cs, x => cs = [.string x]
  | .raw, cs, x => cs = [x] ∧ one' x = true
  | .arr k _, cs, x => cs = ints k x.l
  | .pr a b, cs, x => ∃ c1 c2, cs = c1 ++ c2 ∧ RepD N w a c1 x.1 ∧ RepD N w b c2 x.2
  | .sl t, cs, x => ∃ (a : Option Addr) (c : Nat), cs = [.slice a (List.length x) c] ∧ List.length x ≤ c ∧ (a = none → c = 0) ∧ (∀ ad, a = some ad → 0 < List.length x → ad.block < w.heap.size ∧ ¬ N ad.block) ∧
      ∃ css : List (List Value), All2 (fun cs y => RepD N w t cs y) css x ∧ Row w a css.flatten

theorem RepD.len {N : Nat → Prop} {w : World} {t : Ty} {cs : List Value} {x : t.den} (h : RepD N w t cs x) : cs.length = t.size := by
  induction t generalizing cs with
  | int k => rw [show cs = _ from h]; rfl
  | bool => rw [show cs = _ from h]; rfl
  | str => rw [show cs = _ from h]; rfl
  | raw => rw [show cs = _ from h.1]; rfl
  | arr k n => rw [show cs = _ from h, length_ints, x.h]; rfl
  | pr a b iha ihb =>
    obtain ⟨c1, c2, rfl, h1, h2⟩ := h
    rw [List.length_append, iha h1, ihb h2]; rfl
  | sl t ih => obtain ⟨a, c, rfl, _⟩ := h; rfl
theorem RepD.one {N : Nat → Prop} {w : World} {t : Ty} {cs : List Value} {x : t.den} (h : RepD N w t cs x) : cs.all one' = true := by
  induction t generalizing cs with
  | int k => rw [show cs = _ from h]; rfl
  | bool => rw [show cs = _ from h]; rfl
  | str => rw [show cs = _ from h]; rfl
  | raw => rw [show cs = _ from h.1]; simp [h.2]
  | arr k n => rw [show cs = _ from h]; exact one_ints _ _
  | pr a b iha ihb =>
    obtain ⟨c1, c2, rfl, h1, h2⟩ := h
    rw [List.all_append, iha h1, ihb h2]; rfl
  | sl t ih => obtain ⟨a, c, rfl, _⟩ := h; rfl
/-- what keeps a row of cells as it is -/
def Kept (N N' : Nat → Prop) (w w' : World) : Prop := w.heap.size ≤ w'.heap.size ∧ ∀ k, k < w.heap.size → ¬ N k → w'.heap[k]? = w.heap[k]? ∧ ¬ N' k
theorem Kept.refl (N : Nat → Prop) (w : World) : Kept N N w w := ⟨Nat.le_refl _, fun _ _ h => ⟨rfl, h⟩⟩
theorem Kept.trans {N N' N'' : Nat → Prop} {w w' w'' : World} (h : Kept N N' w w') (k : Kept N' N'' w' w'') : Kept N N'' w w'' :=
  ⟨Nat.le_trans h.1 k.1, fun i hi hn => by
    obtain ⟨a, b⟩ := h.2 i hi hn
    obtain ⟨c, d⟩ := k.2 i (Nat.lt_of_lt_of_le hi h.1) b
    exact ⟨c.trans a, d⟩⟩
theorem Row.kept {N N' : Nat → Prop} {w w' : World} {a : Option Addr} {cs : List Value} (h : Row w a cs) (hk : Kept N N' w w') (ha : ∀ ad, a = some ad → 0 < cs.length → ad.block < w.heap.size ∧ ¬ N ad.block) : Row w' a cs := fun j v hj => by
  obtain ⟨ad, e, hc⟩ := h j v hj
  obtain ⟨h1, h2⟩ := ha ad e (by have := (List.getElem?_eq_some_iff.1 hj).1; omega)
  refine ⟨ad, e, ?_⟩
  exact (World.cell?_of_block (w := w) (w' := w') (a := ad.add j) (by rw [add_block]; exact (hk.2 _ h1 h2).1)).trans hc
theorem flat_pos {α : Type} {R : List Value → α → Prop} {css : List (List Value)} {l : List α} (h : All2 R css l) (hp : 0 < css.flatten.length) : 0 < l.length := by
  cases l with
  | nil =>
    cases css with
    | nil => exact absurd hp (Nat.lt_irrefl _)
    | cons c css => cases h
  | cons b l => exact Nat.succ_pos _
theorem RepD.kept {N N' : Nat → Prop} {w w' : World} (hk : Kept N N' w w') {t : Ty} {cs : List Value} {x : t.den} (h : RepD N w t cs x) : RepD N' w' t cs x := by
  induction t generalizing cs with
  | int k => exact h
  | bool => exact h
  | str => exact h
  | raw => exact h
  | arr k n => exact h
  | pr a b iha ihb =>
    obtain ⟨c1, c2, e, h1, h2⟩ := h
    exact ⟨c1, c2, e, iha h1, ihb h2⟩
  | sl t ih =>
    obtain ⟨a, c, e, h1, h2, h3, css, h4, h5⟩ := h
    refine ⟨a, c, e, h1, h2, fun ad ha hp => ⟨Nat.lt_of_lt_of_le (h3 ad ha hp).1 hk.1, (hk.2 _ (h3 ad ha hp).1 (h3 ad ha hp).2).2⟩, css, ?_, h5.kept hk fun ad ha hp => h3 ad ha (flat_pos h4 hp)⟩
    exact All2.mono (fun _ _ h => ih h) h4
theorem flat_len {α : Type} {R : List Value → α → Prop} {n : Nat} (hl : ∀ cs x, R cs x → cs.length = n) {css : List (List Value)} {l : List α} (h : All2 R css l) : css.flatten.length = l.length * n := by
  induction css generalizing l with
  | nil => cases l with
    | nil => simp
    | cons b m => cases h
  | cons c css ih => cases l with
    | nil => cases h
    | cons b l => rw [List.flatten_cons, List.length_append, hl _ _ h.1, ih h.2, List.length_cons, Nat.add_mul]; omega
theorem flat_get {α : Type} {R : List Value → α → Prop} {n : Nat} (hl : ∀ cs x, R cs x → cs.length = n) {css : List (List Value)} {l : List α} (h : All2 R css l) {i : Nat} {x : α} (hi : l[i]? = some x) :
    ∃ cs, css[i]? = some cs ∧ R cs x ∧ (css.flatten.drop (i * n)).take n = cs := by
  induction css generalizing l i with
  | nil => cases l with
    | nil => simp at hi
    | cons b m => cases h
  | cons c css ih => cases l with
    | nil => cases h
    | cons b l => cases i with
      | zero =>
        simp at hi; subst hi
        refine ⟨c, rfl, h.1, ?_⟩
        rw [Nat.zero_mul, List.drop_zero, List.flatten_cons, List.take_left' (hl _ _ h.1)]
      | succ i =>
        obtain ⟨cs, h1, h2, h3⟩ := ih h.2 (by simpa using hi)
        refine ⟨cs, h1, h2, ?_⟩
        rw [List.flatten_cons, show (i + 1) * n = c.length + i * n by rw [hl _ _ h.1, Nat.add_mul]; omega, ← List.drop_drop, List.drop_left' rfl]
        exact h3
theorem flat_cut {α : Type} {R : List Value → α → Prop} {n : Nat} (hl : ∀ cs x, R cs x → cs.length = n) {css : List (List Value)} {l : List α} (h : All2 R css l) (i m : Nat) :
    ((css.drop i).take m).flatten = (css.flatten.drop (i * n)).take (m * n) := by
  have key : ∀ (css : List (List Value)) (l : List α), All2 R css l → ∀ m, (css.take m).flatten = css.flatten.take (m * n) := by
    intro css
    induction css with
    | nil => intro l _ m; simp
    | cons c css ih =>
      intro l h m
      cases l with
      | nil => cases h
      | cons b l => cases m with
        | zero => simp
        | succ m =>
          have hc := hl _ _ h.1
          have e : (m + 1) * n = n + m * n := by rw [Nat.add_mul]; omega
          rw [List.take_succ_cons, List.flatten_cons, List.flatten_cons, ih l h.2 m, List.take_append, List.take_of_length_le (l := c) (by omega), hc, e, Nat.add_sub_cancel_left]
  have key2 : ∀ (css : List (List Value)) (l : List α), All2 R css l → ∀ i, (css.drop i).flatten = css.flatten.drop (i * n) := by
    intro css
    induction css with
    | nil => intro l _ m; simp
    | cons c css ih =>
      intro l h i
      cases l with
      | nil => cases h
      | cons b l => cases i with
        | zero => simp
        | succ i =>
          rw [List.drop_succ_cons, List.flatten_cons, ih l h.2 i, show (i + 1) * n = c.length + i * n by rw [hl _ _ h.1, Nat.add_mul]; omega, ← List.drop_drop, List.drop_left' rfl]
  rw [key _ _ (h.drop i), key2 _ _ h]

/-! ### virtual values -/
inductive BV
  | int (k : IntKind) (x : Int) | bool (b : Bool) | str (s : ByteArray) | raw (v : Value)
  | nilsl | row (j : Nat) | sl (j fo i sz len : Nat) (top : Option Nat)
  | nilptr | ptr (j fo i sz : Nat) | nilmap | map (j : Nat) | nilfn | undef
inductive SV
  | b (v : BV)
  | fn (f : Fn) (first caps : List BV)
  | yld (j : Nat)
inductive Seg
  | one (v : SV)
  | arr (k : IntKind) (n : Nat) (a : Arr n)
inductive AV
  | one (v : SV)
  | agg (l : List Seg)
inductive VV
  | a (v : AV)
  | tup (l : List AV)
@[reducible] def VV.int (k : IntKind) (x : Int) : VV := .a (.one (.b (.int k x)))
@[reducible] def VV.bool (x : Bool) : VV := .a (.one (.b (.bool x)))
@[reducible] def VV.b (x : BV) : VV := .a (.one (.b x))
def VV.und : VV := .a (.one (.b .undef))
/-- frames -/
abbrev VEnv := List (Nat × VV)
def VEnv.get : VEnv → Nat → Option VV
  | [], _ => none
  | (k, v) :: r, t => bif Nat.beq k t then some v else VEnv.get r t
/-- how a round leaves its loop -/
inductive Jump
  | ret | ext (i : Nat)
deriving DecidableEq
def Jump.code : Jump → Code
  | .ret => .ret
  | .ext i => .exit i

/-- a loop over a function: the frame in which it stands, yield's parameters, its code -/
structure RecD where
  E : VEnv
  n : Nat
  ps : List Nat
  asn : Code
  body : Code
inductive Obj
  | blk (T : TypeId) (l : List Seg)
  | own (t : Ty) (e : TypeId) (l : List t.den) (full : Bool)
  | ro (t : Ty) (l : List t.den)
  | dead
  | hid (c : Go.Obj)
  | rcd (bz : Bool) (R : RecD)
  | rdn (q : Jump)
  | fblk (T : TypeId) (l : List Seg)
def Obj.mut : Obj → Bool
  | .blk _ _ => true
  | .own _ _ _ _ => true
  | .hid _ => true
  | .rcd _ _ => true
  | .rdn _ => true
  | _ => false
abbrev Hp := List (Nat × Obj)
def Hp.get : Hp → Nat → Option Obj
  | [], _ => none
  | (k, o) :: r, j => bif Nat.beq k j then some o else Hp.get r j
theorem Hp.get_app (u H : Hp) (j : Nat) : Hp.get (u ++ H) j = (match Hp.get u j with | some o => some o | none => Hp.get H j) := by
  induction u with
  | nil => rfl
  | cons x u ih =>
    obtain ⟨k, o⟩ := x
    simp only [List.cons_append, Hp.get]
    cases Nat.beq k j with
    | true => rfl
    | false => simpa using ih

/-- where an object lies: its address, how many elements go there, how many there are -/
structure Bs where
  addr : Option Addr
  cap : Nat
  clen : Nat
abbrev Ph := Nat → Bs

def RelB (φ : Ph) (A : Nat → Prop) : BV → Value → Prop
  | .int k x, v => v = .int k x
  | .bool b, v => v = .bool b
  | .str s, v => v = .string s
  | .raw x, v => v = x ∧ one' x = true
  | .nilsl, v => v = .slice none 0 0
  | .row j, v => A j ∧ v = .slice (φ j).addr (φ j).clen (φ j).cap ∧ (φ j).clen ≤ (φ j).cap ∧ ((φ j).addr = none → (φ j).cap = 0)
  | .sl j fo i sz len top, v => A j ∧ ∃ a c, v = .slice a len c ∧ len ≤ c ∧ (a = none → c = 0) ∧ (∀ ad, a = some ad → ∃ ad0, (φ j).addr = some ad0 ∧ ad.block = ad0.block) ∧
      (0 < c → ∃ ad0, (φ j).addr = some ad0 ∧ a = some (ad0.add (fo + i * sz))) ∧ i + c = top.getD (φ j).cap ∧ i + len ≤ top.getD (φ j).clen ∧ (fo = 0 → i = 0 → a = (φ j).addr)
  | .nilptr, v => v = .pointer none
  | .ptr j fo i sz, v => A j ∧ ∃ ad, (φ j).addr = some ad ∧ v = .pointer (some (ad.add (fo + i * sz)))
  | .nilmap, v => v = .map none
  | .map j, v => A j ∧ ∃ ad, (φ j).addr = some ad ∧ v = .map (some ad.block)
  | .nilfn, v => v = .nilFunc
  | .undef, _ => True
def RelS (φ : Ph) (A : Nat → Prop) : SV → Value → Prop
  | .b x, v => RelB φ A x v
  | .fn f fs cs, v => ∃ vs us, v = .func f vs.toArray us.toArray ∧ All2 (fun x v => RelB φ A x v) fs vs ∧ All2 (fun x v => RelB φ A x v) cs us
  | .yld j, v => A j ∧ ∃ g, (φ j).addr = some ⟨g, 0, none⟩ ∧ v = .func (.yield g) #[] #[]
def RelG (φ : Ph) (A : Nat → Prop) : List Seg → List Value → Prop
  | [], cs => cs = []
  | .one s :: r, cs => ∃ c cs', cs = c :: cs' ∧ RelS φ A s c ∧ one' c = true ∧ RelG φ A r cs'
  | .arr k _ a :: r, cs => ∃ cs', cs = ints k a.l ++ cs' ∧ RelG φ A r cs'
def RelA (φ : Ph) (A : Nat → Prop) : AV → Value → Prop
  | .one s, v => RelS φ A s v
  | .agg l, v => ∃ cs, v = .agg cs.toArray ∧ RelG φ A l cs
def RelV (φ : Ph) (A : Nat → Prop) : VV → Value → Prop
  | .a x, v => RelA φ A x v
  | .tup l, v => ∃ vs, v = .tuple vs.toArray ∧ All2 (fun x v => RelA φ A x v) l vs

/-- ids keep their meaning -/
def Agree (φ φ' : Ph) (A A' : Nat → Prop) : Prop := ∀ j, A j → φ' j = φ j ∧ A' j
theorem Agree.refl (φ : Ph) (A : Nat → Prop) : Agree φ φ A A := fun _ h => ⟨rfl, h⟩
theorem Agree.trans {φ φ' φ'' : Ph} {A A' A'' : Nat → Prop} (h : Agree φ φ' A A') (k : Agree φ' φ'' A' A'') : Agree φ φ'' A A'' :=
  fun j hj => ⟨(k j (h j hj).2).1.trans (h j hj).1, (k j (h j hj).2).2⟩
section
variable {φ φ' : Ph} {A A' : Nat → Prop}
theorem RelB.up (ha : Agree φ φ' A A') {x : BV} {v : Value} (h : RelB φ A x v) : RelB φ' A' x v := by
  cases x with
  | row j => obtain ⟨h1, h2⟩ := h; obtain ⟨e, h3⟩ := ha j h1; exact ⟨h3, by rw [e]; exact h2⟩
  | sl j fo i sz len top => obtain ⟨h1, h2⟩ := h; obtain ⟨e, h3⟩ := ha j h1; exact ⟨h3, by rw [e]; exact h2⟩
  | ptr j fo i sz => obtain ⟨h1, h2⟩ := h; obtain ⟨e, h3⟩ := ha j h1; exact ⟨h3, by rw [e]; exact h2⟩
  | map j => obtain ⟨h1, h2⟩ := h; obtain ⟨e, h3⟩ := ha j h1; exact ⟨h3, by rw [e]; exact h2⟩
  | _ => exact h
theorem RelS.up (ha : Agree φ φ' A A') {x : SV} {v : Value} (h : RelS φ A x v) : RelS φ' A' x v := by
  cases x with
  | b x => exact RelB.up ha h
  | fn f fs cs => obtain ⟨vs, us, e, h1, h2⟩ := h; exact ⟨vs, us, e, h1.mono fun _ _ => RelB.up ha, h2.mono fun _ _ => RelB.up ha⟩
  | yld j => obtain ⟨h1, h2⟩ := h; obtain ⟨e, h3⟩ := ha j h1; exact ⟨h3, by rw [e]; exact h2⟩
theorem RelG.up (ha : Agree φ φ' A A') {l : List Seg} {cs : List Value} (h : RelG φ A l cs) : RelG φ' A' l cs := by
  induction l generalizing cs with
  | nil => exact h
  | cons x l ih =>
    cases x with
    | one s => obtain ⟨c, cs', e, h1, h2, h3⟩ := h; exact ⟨c, cs', e, h1.up ha, h2, ih h3⟩
    | arr k n a => obtain ⟨cs', e, h1⟩ := h; exact ⟨cs', e, ih h1⟩
theorem RelA.up (ha : Agree φ φ' A A') {x : AV} {v : Value} (h : RelA φ A x v) : RelA φ' A' x v := by
  cases x with
  | one s => exact RelS.up ha h
  | agg l => obtain ⟨cs, e, h1⟩ := h; exact ⟨cs, e, h1.up ha⟩
theorem RelV.up (ha : Agree φ φ' A A') {x : VV} {v : Value} (h : RelV φ A x v) : RelV φ' A' x v := by
  cases x with
  | a x => exact RelA.up ha h
  | tup l => obtain ⟨vs, e, h1⟩ := h; exact ⟨vs, e, h1.mono fun _ _ => RelA.up ha⟩
theorem RelG.one {l : List Seg} {cs : List Value} (h : RelG φ A l cs) : cs.all one' = true := by
  induction l generalizing cs with
  | nil => rw [show cs = [] from h]; rfl
  | cons x l ih =>
    cases x with
    | one s => obtain ⟨c, cs', rfl, h1, h2, h3⟩ := h; simp [h2, ih h3]
    | arr k n a => obtain ⟨cs', rfl, h1⟩ := h; rw [List.all_append, one_ints, ih h1]; rfl
theorem RelG.app {l m : List Seg} {cs ds : List Value} (h : RelG φ A l cs) (h' : RelG φ A m ds) : RelG φ A (l ++ m) (cs ++ ds) := by
  induction l generalizing cs with
  | nil => rw [show cs = [] from h]; exact h'
  | cons x l ih =>
    cases x with
    | one s => obtain ⟨c, cs', rfl, h1, h2, h3⟩ := h; exact ⟨c, cs' ++ ds, rfl, h1, h2, ih h3⟩
    | arr k n a => obtain ⟨cs', rfl, h1⟩ := h; exact ⟨cs' ++ ds, by rw [List.append_assoc], ih h1⟩
end
def Seg.n : Seg → Nat
  | .one _ => 1
  | .arr _ n _ => n
def segsN (l : List Seg) : Nat := l.foldr (fun s m => s.n + m) 0
theorem RelG.len {φ : Ph} {A : Nat → Prop} {l : List Seg} {cs : List Value} (h : RelG φ A l cs) : cs.length = segsN l := by
  induction l generalizing cs with
  | nil => rw [show cs = [] from h]; rfl
  | cons x l ih =>
    cases x with
    | one s => obtain ⟨c, cs', rfl, h1, h2, h3⟩ := h; simp [segsN, Seg.n] at ih ⊢; rw [ih h3]; omega
    | arr k n a => obtain ⟨cs', rfl, h1⟩ := h; simp [segsN, Seg.n] at ih ⊢; rw [ih h1, a.h]

/-! ### objects in a world -/
def Tame (w : World) (t : Ty) (a : Option Addr) : Prop := ∀ k, t = .int k → ∀ ad cs T, a = some ad → Blk w ad.block cs T → ∀ u ∈ cs, ∃ x, u = .int k x
def RepO (φ : Ph) (A N : Nat → Prop) (w : World) (b : Bs) : Obj → Prop
  | .blk T l => ∃ g cs, b.addr = some ⟨g, 0, none⟩ ∧ Blk w g cs T ∧ RelG φ A l cs
  | .own t e l full => ∃ css, All2 (fun cs x => RepD N w t cs x) css l ∧ w.ownsRow 0 e t.size (.slice b.addr (List.length l) b.cap) (List.length l) css.flatten ∧ b.clen = List.length l ∧ (full = true → b.cap = List.length l) ∧ (b.addr = none → b.cap = 0) ∧ Tame w t b.addr
  | .ro t l => ∃ css, All2 (fun cs x => RepD N w t cs x) css l ∧ Row w b.addr css.flatten ∧ b.clen = List.length l ∧ List.length l ≤ b.cap ∧ (b.addr = none → b.cap = 0) ∧ (∀ ad, b.addr = some ad → 0 < List.length l → ad.block < w.heap.size ∧ ¬ N ad.block)
  | .dead => True
  | .hid c => ∃ ad, b.addr = some ad ∧ w.heap[ad.block]? = some c
  | .rcd bz R => ∃ g r, b.addr = some ⟨g, 0, none⟩ ∧ w.heap[g]? = some (.loop r) ∧ r.state = (bif bz then .busy else .ready) ∧ r.pending = none ∧ r.params.toList = R.ps ∧ r.assign = R.asn ∧ r.body = R.body ∧ r.tmps.size = R.n ∧ ∀ t v, VEnv.get R.E t = some v → ∃ u, r.tmps[t]? = some u ∧ RelV φ A v u
  | .rdn q => ∃ g r, b.addr = some ⟨g, 0, none⟩ ∧ w.heap[g]? = some (.loop r) ∧ r.state = .done ∧ r.pending = some q.code
  | .fblk T l => ∃ g cs, b.addr = some ⟨g, 0, none⟩ ∧ Blk w g cs T ∧ RelG φ A l cs ∧ ¬ N g

def MB (φ : Ph) (H : Hp) (k : Nat) : Prop := ∃ j o ad, H.get j = some o ∧ o.mut = true ∧ (φ j).addr = some ad ∧ ad.block = k
structure RepH (A : Nat → Prop) (φ : Ph) (H : Hp) (w : World) : Prop where
  dom : ∀ j o, H.get j = some o → A j
  obj : ∀ j o, H.get j = some o → RepO φ A (MB φ H) w (φ j) o
  sep : ∀ j j' o o' ad ad', j ≠ j' → H.get j = some o → H.get j' = some o' → o.mut = true → o'.mut = true → (φ j).addr = some ad → (φ j').addr = some ad' → ad.block ≠ ad'.block

theorem own_addr {w : World} {base : Nat} {e : TypeId} {size : Nat} {a : Option Addr} {n c k : Nat} {xs : List Value} (h : w.ownsRow base e size (.slice a n c) k xs) {ad : Addr} (ha : a = some ad) :
    ad = ⟨ad.block, 0, none⟩ ∧ ∃ sp, Blk w ad.block (xs ++ sp) e ∧ (xs ++ sp).length = c * size ∧ c ≤ maxLen := by
  subst ha
  rcases own_open h with ⟨h1, _, _⟩ | ⟨g, c', sp, h1, _, hB, _, h3, _, h4⟩
  · cases h1
  · cases h1; exact ⟨rfl, sp, hB, h3, h4⟩
theorem RepO.low {φ : Ph} {A N : Nat → Prop} {w : World} {b : Bs} {o : Obj} (h : RepO φ A N w b o) (hm : o.mut = true) {ad : Addr} (ha : b.addr = some ad) : ad.block < w.heap.size := by
  cases o with
  | blk T l => obtain ⟨g, cs, h1, h2, _⟩ := h; rw [h1] at ha; cases ha; exact h2.lt
  | own t e l full => obtain ⟨css, _, h1, _⟩ := h; obtain ⟨_, sp, hB, _⟩ := own_addr h1 ha; exact hB.lt
  | ro t l => cases hm
  | dead => cases hm
  | hid c => obtain ⟨ad', h1, h2⟩ := h; rw [h1] at ha; cases ha; exact (Array.getElem?_eq_some_iff.1 h2).1
  | rcd bz R => obtain ⟨g, r, h1, h2, _⟩ := h; rw [h1] at ha; cases ha; exact (Array.getElem?_eq_some_iff.1 h2).1
  | rdn q => obtain ⟨g, r, h1, h2, _⟩ := h; rw [h1] at ha; cases ha; exact (Array.getElem?_eq_some_iff.1 h2).1
  | fblk T l => cases hm
theorem RepH.low {A : Nat → Prop} {φ : Ph} {H : Hp} {w : World} (h : RepH A φ H w) {k : Nat} (hk : MB φ H k) : k < w.heap.size := by
  obtain ⟨j, o, ad, h1, h2, h3, rfl⟩ := hk
  exact (h.obj j o h1).low h2 h3

theorem Blk.same {w w' : World} {b : Nat} {cs : List Value} {T : TypeId} (h : Blk w b cs T) (he : w'.heap[b]? = w.heap[b]?) : Blk w' b cs T := he.trans h
theorem Tame.same {w w' : World} {t : Ty} {a : Option Addr} (h : Tame w t a) (hs : ∀ ad, a = some ad → w'.heap[ad.block]? = w.heap[ad.block]?) : Tame w' t a :=
  fun k hk ad cs T ha hB => h k hk ad cs T ha ((hs ad ha).symm.trans hB)
theorem own_same {w w' : World} {base : Nat} {e : TypeId} {size n c k : Nat} {a : Option Addr} {xs : List Value} (h : w.ownsRow base e size (.slice a n c) k xs) (hs : ∀ ad, a = some ad → w'.heap[ad.block]? = w.heap[ad.block]?) :
    w'.ownsRow base e size (.slice a n c) k xs := by
  obtain ⟨h1, h2⟩ := h
  refine ⟨h1, ?_⟩
  rcases h2 with h2 | ⟨g, cap, cur, e1, hb, hg, r⟩
  · exact .inl h2
  · cases e1; exact .inr ⟨g, _, cur, rfl, hb, (hs _ rfl).trans hg, r⟩
/-- an object that nobody touches -/
theorem RepO.kept {φ φ' : Ph} {A A' N N' : Nat → Prop} {w w' : World} {b : Bs} {o : Obj} (h : RepO φ A N w b o) (hA : Agree φ φ' A A') (hk : Kept N N' w w') (hs : o.mut = true → ∀ ad, b.addr = some ad → w'.heap[ad.block]? = w.heap[ad.block]?) :
    RepO φ' A' N' w' b o := by
  cases o with
  | blk T l => obtain ⟨g, cs, h1, h2, h3⟩ := h; exact ⟨g, cs, h1, h2.same (hs rfl _ h1), h3.up hA⟩
  | own t e l full =>
    obtain ⟨css, h1, h2, h3, h4, h5, h6⟩ := h
    exact ⟨css, h1.mono fun _ _ => RepD.kept hk, own_same h2 (hs rfl), h3, h4, h5, h6.same (hs rfl)⟩
  | ro t l =>
    obtain ⟨css, h1, h2, h3, h4, h5, h6⟩ := h
    exact ⟨css, h1.mono fun _ _ => RepD.kept hk, h2.kept hk fun ad ha hp => h6 ad ha (flat_pos h1 hp), h3, h4, h5, fun ad ha hp => ⟨Nat.lt_of_lt_of_le (h6 ad ha hp).1 hk.1, (hk.2 _ (h6 ad ha hp).1 (h6 ad ha hp).2).2⟩⟩
  | dead => trivial
  | hid c => obtain ⟨ad, h1, h2⟩ := h; exact ⟨ad, h1, (hs rfl ad h1).trans h2⟩
  | rcd bz R => obtain ⟨g, r, h1, h2, h3, h4, h5, h6, h7, h8, h9⟩ := h; exact ⟨g, r, h1, (hs rfl _ h1).trans h2, h3, h4, h5, h6, h7, h8, fun t v ht => let ⟨u, k1, k2⟩ := h9 t v ht; ⟨u, k1, k2.up hA⟩⟩
  | rdn q => obtain ⟨g, r, h1, h2, h3⟩ := h; exact ⟨g, r, h1, (hs rfl _ h1).trans h2, h3⟩
  | fblk T l => obtain ⟨g, cs, h1, h2, h3, h4⟩ := h; exact ⟨g, cs, h1, h2.same (hk.2 _ h2.lt h4).1, h3.up hA, (hk.2 _ h2.lt h4).2⟩

/-- a step from one state to another -/
structure Stp (A : Nat → Prop) (φ : Ph) (H : Hp) (w : World) (A' : Nat → Prop) (φ' : Ph) (H' : Hp) (w' : World) : Prop where
  rep : RepH A' φ' H' w'
  agree : Agree φ φ' A A'
  ext : Ext (MB φ H) w w'
  mb : ∀ k, MB φ' H' k → MB φ H k ∨ w.heap.size ≤ k
theorem Stp.trans {A : Nat → Prop} {φ : Ph} {H : Hp} {w : World} {A' : Nat → Prop} {φ' : Ph} {H' : Hp} {w' : World} {A'' : Nat → Prop} {φ'' : Ph} {H'' : Hp} {w'' : World}
    (h : Stp A φ H w A' φ' H' w') (k : Stp A' φ' H' w' A'' φ'' H'' w'') : Stp A φ H w A'' φ'' H'' w'' where
  rep := k.rep
  agree := h.agree.trans k.agree
  ext := ⟨k.ext.os.trans h.ext.os, k.ext.tape.trans h.ext.tape, k.ext.output.trans h.ext.output, Nat.le_trans h.ext.size k.ext.size, fun i hi hn =>
    (k.ext.same i (Nat.lt_of_lt_of_le hi h.ext.size) fun hm => (h.mb i hm).elim hn fun hle => by omega).trans (h.ext.same i hi hn)⟩
  mb := fun i hi => (k.mb i hi).elim (h.mb i) fun hle => .inr (Nat.le_trans h.ext.size hle)
theorem Stp.refl {A : Nat → Prop} {φ : Ph} {H : Hp} {w : World} (h : RepH A φ H w) : Stp A φ H w A φ H w := ⟨h, .refl _ _, Ext.refl _ _, fun _ h => .inl h⟩

/-- The general step: the objects of u are laid, the others are not touched. -/
theorem RepH.lay {A A' : Nat → Prop} {φ φ' : Ph} {H u : Hp} {w w' : World} (h : RepH A φ H w) (hA : Agree φ φ' A A') (he : Ext (MB φ H) w w')
    (hnew : ∀ j o, u.get j = some o → A' j ∧ (o.mut = true → ∀ ad, (φ' j).addr = some ad → w.heap.size ≤ ad.block ∨ ∃ i oi, (u.get i).isSome = true ∧ H.get i = some oi ∧ oi.mut = true ∧ (φ i).addr.map (·.block) = some ad.block))
    (hold : ∀ j o ad, u.get j = none → H.get j = some o → o.mut = true → (φ j).addr = some ad → w'.heap[ad.block]? = w.heap[ad.block]?)
    (hsep : ∀ j j' o o' ad ad', j ≠ j' → u.get j = some o → u.get j' = some o' → o.mut = true → o'.mut = true → (φ' j).addr = some ad → (φ' j').addr = some ad' → ad.block ≠ ad'.block)
    (hobj : ∀ N' : Nat → Prop, Kept (MB φ H) N' w w' → (∀ k, N' k → MB φ H k ∨ w.heap.size ≤ k) → (∀ j o ad, u.get j = some o → o.mut = true → (φ' j).addr = some ad → N' ad.block) →
      (∀ k, N' k → (∃ j o ad, u.get j = some o ∧ o.mut = true ∧ (φ' j).addr = some ad ∧ ad.block = k) ∨ (∃ j o ad, u.get j = none ∧ H.get j = some o ∧ o.mut = true ∧ (φ j).addr = some ad ∧ ad.block = k)) →
      ∀ j o, u.get j = some o → RepO φ' A' N' w' (φ' j) o) :
    Stp A φ H w A' φ' (u ++ H) w' := by
  have get : ∀ j o, Hp.get (u ++ H) j = some o → u.get j = some o ∨ (u.get j = none ∧ H.get j = some o) := by
    intro j o hj
    rw [Hp.get_app] at hj
    cases hu : u.get j with
    | none => rw [hu] at hj; exact .inr ⟨rfl, hj⟩
    | some x => rw [hu] at hj; exact .inl hj
  have put : ∀ j o, u.get j = some o → Hp.get (u ++ H) j = some o := fun j o hj => by rw [Hp.get_app, hj]
  have phi : ∀ j o, H.get j = some o → φ' j = φ j := fun j o hj => (hA j (h.dom j o hj)).1
  have hmb : ∀ k, MB φ' (u ++ H) k → MB φ H k ∨ w.heap.size ≤ k := by
    rintro k ⟨j, o, ad, h1, h2, h3, rfl⟩
    rcases get j o h1 with hu | ⟨_, hH⟩
    · rcases (hnew j o hu).2 h2 ad h3 with hle | ⟨i, oi, _, hi, hm, hb⟩
      · exact .inr hle
      · left
        cases ha : (φ i).addr with
        | none => rw [ha] at hb; cases hb
        | some adi => rw [ha] at hb; simp only [Option.map_some, Option.some.injEq] at hb; exact ⟨i, oi, adi, hi, hm, ha, hb⟩
    · rw [phi j o hH] at h3; exact .inl ⟨j, o, ad, hH, h2, h3, rfl⟩
  have hK : Kept (MB φ H) (MB φ' (u ++ H)) w w' := ⟨he.size, fun k hk hn => ⟨he.same k hk hn, fun hm => (hmb k hm).elim hn fun hle => by omega⟩⟩
  refine ⟨⟨fun j o hj => ?_, fun j o hj => ?_, fun j j' o o' ad ad' hne hj hj' hm hm' ha ha' => ?_⟩, hA, he, hmb⟩
  · rcases get j o hj with hu | ⟨_, hH⟩
    · exact (hnew j o hu).1
    · exact (hA j (h.dom j o hH)).2
  · rcases get j o hj with hu | ⟨hn, hH⟩
    · refine hobj _ hK hmb (fun j o ad hj hm ha => ⟨j, o, ad, put j o hj, hm, ha, rfl⟩) ?_ j o hu
      rintro k ⟨j, o, ad, h1, h2, h3, h4⟩
      rcases get j o h1 with hu | ⟨hn, hH⟩
      · exact .inl ⟨j, o, ad, hu, h2, h3, h4⟩
      · rw [phi j o hH] at h3; exact .inr ⟨j, o, ad, hn, hH, h2, h3, h4⟩
    · rw [phi j o hH]
      exact (h.obj j o hH).kept hA hK fun hm ad ha => hold j o ad hn hH hm ha
  · have cross : ∀ j j' o o' ad ad', j ≠ j' → u.get j = some o → u.get j' = none → H.get j' = some o' → o.mut = true → o'.mut = true → (φ' j).addr = some ad → (φ j').addr = some ad' → ad.block ≠ ad'.block := by
      intro j j' o o' ad ad' hne hu hn' hH' hm hm' ha ha' hb
      rcases (hnew j o hu).2 hm ad ha with hle | ⟨i, oi, hui, hi, hmi, hbi⟩
      · have := (h.obj j' o' hH').low hm' ha'
        omega
      · have hij : i ≠ j' := fun e => by subst e; rw [hn'] at hui; cases hui
        cases hai : (φ i).addr with
        | none => rw [hai] at hbi; cases hbi
        | some adi =>
          rw [hai] at hbi
          simp only [Option.map_some, Option.some.injEq] at hbi
          exact h.sep i j' oi o' adi ad' hij hi hH' hmi hm' hai ha' (hbi.trans hb)
    rcases get j o hj with hu | ⟨hn, hH⟩ <;> rcases get j' o' hj' with hu' | ⟨hn', hH'⟩
    · exact hsep j j' o o' ad ad' hne hu hu' hm hm' ha ha'
    · rw [phi j' o' hH'] at ha'; exact cross j j' o o' ad ad' hne hu hn' hH' hm hm' ha ha'
    · rw [phi j o hH] at ha; exact (cross j' j o' o ad' ad (Ne.symm hne) hu' hn hH hm' hm ha' ha).symm
    · rw [phi j o hH] at ha; rw [phi j' o' hH'] at ha'; exact h.sep j j' o o' ad ad' hne hH hH' hm hm' ha ha'
/-- nothing is laid -/
theorem RepH.quiet {A : Nat → Prop} {φ : Ph} {H : Hp} {w w' : World} (h : RepH A φ H w) (he : Grow w w') : Stp A φ H w A φ H w' := by
  have := h.lay (u := []) (.refl _ _) he.any (fun j o hj => by cases hj) (fun j o ad _ hH hm ha => he.same _ ((h.obj j o hH).low hm ha) id) (fun j j' o o' ad ad' _ hj => by cases hj) (fun _ _ _ _ _ j o hj => by cases hj)
  exact this

/-- heaps that read alike -/
theorem RepH.congr {A : Nat → Prop} {φ : Ph} {H H' : Hp} {w : World} (h : RepH A φ H w) (hg : ∀ j, H'.get j = H.get j) : RepH A φ H' w := by
  have hm : MB φ H' = MB φ H := by funext k; unfold MB; simp only [hg]
  exact ⟨fun j o hj => h.dom j o (by rw [← hg]; exact hj), fun j o hj => by rw [hm]; exact h.obj j o (by rw [← hg]; exact hj),
    fun j j' o o' ad ad' hne hj hj' => h.sep j j' o o' ad ad' hne (by rw [← hg]; exact hj) (by rw [← hg]; exact hj')⟩
theorem Stp.congr {A : Nat → Prop} {φ : Ph} {H H2 : Hp} {w : World} {A' : Nat → Prop} {φ' : Ph} {H' H3 : Hp} {w' : World} (h : Stp A φ H w A' φ' H' w') (h2 : ∀ j, H2.get j = H.get j) (h3 : ∀ j, H3.get j = H'.get j) : Stp A φ H2 w A' φ' H3 w' := by
  have hm : MB φ H2 = MB φ H := by funext k; unfold MB; simp only [h2]
  have hm' : MB φ' H3 = MB φ' H' := by funext k; unfold MB; simp only [h3]
  exact ⟨h.rep.congr h3, h.agree, by rw [hm]; exact h.ext, by rw [hm, hm']; exact h.mb⟩
end Go.Sat
end
