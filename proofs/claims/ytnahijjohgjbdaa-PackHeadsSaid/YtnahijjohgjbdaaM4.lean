/-
  Part 4 of what the laws of this set are proved with: an engine that reads code off into pure functions, and what those functions compute. No condition.
-/
import Derived.Test.YtnahijjohgjbdaaM3
import Derived.OpenShut
import Derived.ChangeOld
import Derived.Below
import Derived.Carry
import Derived.Laws.StructEq
import Derived.Test.YtnahijjohgjbdaaProg
set_option linter.unusedVariables false
section
namespace Go.Sat
open Go

def avIds : AV → List Nat
  | .one s => segIds [.one s]
  | .agg l => segIds l
def vvIds : VV → List Nat
  | .a x => avIds x
  | .tup l => l.flatMap avIds
def reach (H : Hp) : Nat → List Nat → List Nat
  | 0, ids => ids
  | k + 1, ids => ids ++ reach H k (ids.flatMap fun j => match blkOf (H.get j) with | some l => segIds l | none => [])
def restrict (H : Hp) : List Nat → Hp
  | [] => []
  | j :: r => match H.get j with
    | some o => (j, o) :: restrict H r
    | none => restrict H r
theorem restrict_get {H : Hp} {rd : List Nat} {j : Nat} {o : Obj} (h : (restrict H rd).get j = some o) : j ∈ rd ∧ H.get j = some o := by
  induction rd with
  | nil => cases h
  | cons k rd ih =>
    unfold restrict at h
    split at h
    · rename_i x hx
      by_cases e : k = j
      · subst e; rw [get_self] at h; cases h; exact ⟨List.mem_cons_self .., hx⟩
      · rw [get_ne _ _ e] at h; exact ⟨List.mem_cons_of_mem _ (ih h).1, (ih h).2⟩
    · exact ⟨List.mem_cons_of_mem _ (ih h).1, (ih h).2⟩
theorem restrict_sub {H H1 : Hp} {rd : List Nat} (h : ∀ j ∈ rd, H1.get j = H.get j) : Sub (restrict H rd) H1 := fun j o hj => by
  obtain ⟨h1, h2⟩ := restrict_get hj
  rw [h j h1]; exact h2
/-- the caller's names for objects that a function gives back -/
def flatB : VV → List BV
  | .a (.one (.b b)) => [b]
  | .a (.one (.fn _ fs cs)) => fs ++ cs
  | _ => []
def backIn (j : Nat) : List BV → List BV → Option (Nat × Bool)
  | .ptr q 0 0 0 :: r, .ptr j2 0 0 0 :: r' => bif Nat.beq j2 j then some (q, false) else backIn j r r'
  | .row q :: r, .row j2 :: r' => bif Nat.beq j2 j then some (q, true) else backIn j r r'
  | _ :: r, _ :: r' => backIn j r r'
  | _, _ => none
def backAt (j : Nat) : Nat → List VV → VEnv → Option (Nat × Bool)
  | _, [], _ => none
  | i, v :: r, e0 => match e0.get i with
    | some v' => (match backIn j (flatB v) (flatB v') with | some x => some x | none => backAt j (i + 1) r e0)
    | none => backAt j (i + 1) r e0
theorem backIn_spec {j : Nat} {x : Nat × Bool} : ∀ {l m : List BV}, backIn j l m = some x → ∃ n : Nat, (x.2 = false ∧ l[n]? = some (BV.ptr x.1 0 0 0) ∧ m[n]? = some (BV.ptr j 0 0 0)) ∨ (x.2 = true ∧ l[n]? = some (BV.row x.1) ∧ m[n]? = some (BV.row j)) := by
  intro l
  induction l with
  | nil => intro m h; unfold backIn at h; cases h
  | cons b l ih =>
    intro m h
    have rest : ∀ {m' : List BV} {b' : BV}, m = b' :: m' → backIn j l m' = some x → ∃ n : Nat, (x.2 = false ∧ (b :: l)[n]? = some (BV.ptr x.1 0 0 0) ∧ m[n]? = some (BV.ptr j 0 0 0)) ∨ (x.2 = true ∧ (b :: l)[n]? = some (BV.row x.1) ∧ m[n]? = some (BV.row j)) := fun e h => by
      obtain ⟨n, hn⟩ := ih h
      subst e
      exact ⟨n + 1, by simpa using hn⟩
    unfold backIn at h
    split at h
    · rename_i q r j2 r' e1
      cases e1
      cases hb : Nat.beq j2 j with
      | true => rw [hb] at h; cases h; have := Nat.eq_of_beq_eq_true hb; subst this; exact ⟨0, .inl ⟨rfl, rfl, rfl⟩⟩
      | false => rw [hb] at h; exact rest rfl h
    · rename_i q r j2 r' e1
      cases e1
      cases hb : Nat.beq j2 j with
      | true => rw [hb] at h; cases h; have := Nat.eq_of_beq_eq_true hb; subst this; exact ⟨0, .inr ⟨rfl, rfl, rfl⟩⟩
      | false => rw [hb] at h; exact rest rfl h
    · have hl := (List.cons.inj ‹b :: l = _›).2
      rw [← hl] at h
      exact rest rfl h
    · cases h
theorem backAt_spec {j : Nat} {x : Nat × Bool} {e0 : VEnv} : ∀ {l : List VV} {i : Nat}, backAt j i l e0 = some x → ∃ t v v', i ≤ t ∧ l[t - i]? = some v ∧ e0.get t = some v' ∧ backIn j (flatB v) (flatB v') = some x := by
  intro l
  induction l with
  | nil => intro i h; unfold backAt at h; cases h
  | cons v l ih =>
    intro i h
    have rest : backAt j (i + 1) l e0 = some x → ∃ t u v', i ≤ t ∧ (v :: l)[t - i]? = some u ∧ e0.get t = some v' ∧ backIn j (flatB u) (flatB v') = some x := fun h => by
      obtain ⟨t, u, v', h1, h2, h3, h4⟩ := ih h
      refine ⟨t, u, v', by omega, ?_, h3, h4⟩
      rw [show t - i = (t - (i + 1)) + 1 by omega, List.getElem?_cons_succ]; exact h2
    unfold backAt at h
    split at h
    · rename_i v' hv'
      split at h
      · rename_i y hy
        cases h
        exact ⟨i, v, v', Nat.le_refl _, by simp, hv', hy⟩
      · exact rest h
    · exact rest h
/-- one value, under both names -/
theorem flat_rel {φ φ' : Ph} {A A' : Nat → Prop} {v v' : VV} {x : Value} {n : Nat} {b b' : BV} (h : RelV φ A v x) (h' : RelV φ' A' v' x) (hb : (flatB v)[n]? = some b) (hb' : (flatB v')[n]? = some b')
    (hn : ∀ f vs us, ¬ RelB φ A b (.func f vs us)) (hn' : ∀ f vs us, ¬ RelB φ' A' b' (.func f vs us)) : ∃ u, RelB φ A b u ∧ RelB φ' A' b' u := by
  have one : ∀ {w : VV} {c : BV} {m : Nat}, (flatB w)[m]? = some c → (∃ b, w = .a (.one (.b b))) ∨ ∃ f fs cs, w = .a (.one (.fn f fs cs)) := by
    intro w c m hw
    unfold flatB at hw
    split at hw
    · exact .inl ⟨_, rfl⟩
    · exact .inr ⟨_, _, _, rfl⟩
    · simp at hw
  have single : ∀ {c d : BV} {m : Nat}, (flatB (.a (.one (.b c))))[m]? = some d → c = d := by
    intro c d m hw
    cases m with
    | zero => simpa [flatB] using hw
    | succ m => simp [flatB] at hw
  rcases one hb with ⟨c, rfl⟩ | ⟨f, fs, cs, rfl⟩ <;> rcases one hb' with ⟨c', rfl⟩ | ⟨f', fs', cs', rfl⟩
  · have e := single hb; have e' := single hb'
    subst e; subst e'
    exact ⟨x, h, h'⟩
  · have e := single hb
    subst e
    obtain ⟨vs, us, rfl, _⟩ := h'
    exact absurd h (hn _ _ _)
  · have e' := single hb'
    subst e'
    obtain ⟨vs, us, rfl, _⟩ := h
    exact absurd h' (hn' _ _ _)
  · obtain ⟨vs, us, rfl, h1, h2⟩ := h
    obtain ⟨vs', us', e, k1, k2⟩ := h'
    injection e with e1 e2 e3
    have e2 : vs = vs' := by simpa using e2
    have e3 : us = us' := by simpa using e3
    subst e2; subst e3
    obtain ⟨u, hu, hr⟩ := (h1.app h2).getl (by exact hb)
    obtain ⟨u', hu', hr'⟩ := (k1.app k2).getl (by exact hb')
    rw [hu] at hu'
    cases hu'
    exact ⟨u, hr, hr'⟩
def backM (args : List VV) (e0 : VEnv) (j : Nat) : Nat :=
  match backAt j 0 args e0 with
  | some x => x.1
  | none => 0
def backOk (args : List VV) (e0 : VEnv) : Item → Bool
  | .blk j _ _ => (match backAt j 0 args e0 with | some (_, false) => true | _ => false)
  | .row j _ _ => (match backAt j 0 args e0 with | some (_, true) => true | _ => false)
  | .rdn _ _ => false
  | .rowf j _ _ => (match backAt j 0 args e0 with | some (_, true) => true | _ => false)
  | _ => true
def plainT : Ty → Bool
  | .sl _ => false
  | .pr a b => plainT a && plainT b
  | _ => true
def plainO : Obj → Bool
  | .blk _ _ => true
  | .own t _ _ _ => plainT t
  | .dead => true
  | _ => false
def plainU (u : Hp) : Bool := u.all fun p => plainO p.2
theorem plainU_get {u : Hp} (h : plainU u = true) {j : Nat} {o : Obj} (hj : u.get j = some o) : plainO o = true := by
  induction u with
  | nil => cases hj
  | cons p u ih =>
    obtain ⟨k, x⟩ := p
    simp only [plainU, List.all_cons, Bool.and_eq_true] at h
    by_cases e : k = j
    · subst e; rw [get_self] at hj; cases hj; exact h.1
    · rw [get_ne _ _ e] at hj; exact ih h.2 hj
theorem RepD.plain {N N' : Nat → Prop} {w : World} : ∀ {t : Ty} {cs : List Value} {x : t.den}, plainT t = true → RepD N w t cs x → RepD N' w t cs x := by
  intro t
  induction t with
  | pr a b iha ihb =>
    intro cs x h hr
    have h' := Bool.and_eq_true_iff.1 h
    obtain ⟨c1, c2, e, h1, h2⟩ := hr
    exact ⟨c1, c2, e, iha h'.1 h1, ihb h'.2 h2⟩
  | sl t _ => intro cs x h; cases h
  | _ => intro cs x _ h; exact h
theorem RepO.plain {φ : Ph} {A N N' : Nat → Prop} {w : World} {b : Bs} {o : Obj} (hp : plainO o = true) (h : RepO φ A N w b o) : RepO φ A N' w b o := by
  cases o with
  | blk T l => exact h
  | own t e l f => obtain ⟨css, h1, h2⟩ := h; exact ⟨css, h1.mono fun _ _ => RepD.plain hp, h2⟩
  | ro t l => cases hp
  | dead => trivial
  | hid c => cases hp
  | rcd bz R => cases hp
  | rdn q => cases hp
  | fblk T l => cases hp
def resL (e : VEnv) : Nat → Nat → Option (List AV)
  | _, 0 => some []
  | i, k + 1 => match e.get i with
    | some (.a v) => (match resL e (i + 1) k with | some l => some (v :: l) | none => none)
    | _ => none
def resV (k : Nat) (e : VEnv) : Option VV :=
  bif Nat.beq k 1 then e.get 0 else (match resL e 0 k with | some l => some (.tup l) | none => none)
theorem resL_spec {φ : Ph} {A : Nat → Prop} {e : VEnv} {vs : List Value} (h : ∀ t x, e.get t = some x → RelV φ A x (vs.getD t undef)) : ∀ {k i : Nat} {l : List AV}, resL e i k = some l → i + k = vs.length → All2 (fun x v => RelA φ A x v) l (vs.drop i) := by
  intro k
  induction k with
  | zero =>
    intro i l hl hk
    cases hl
    rw [List.drop_eq_nil_of_le (by omega)]; trivial
  | succ k ih =>
    intro i l hl hk
    unfold resL at hl
    split at hl
    · rename_i v hv
      split at hl
      · rename_i l' hl'
        cases hl
        have hlt : i < vs.length := by omega
        rw [List.drop_eq_getElem_cons hlt]
        refine ⟨?_, ih hl' (by omega)⟩
        have := h i _ hv
        rw [List.getD_eq_getElem?_getD, List.getElem?_eq_getElem hlt] at this
        exact this
      · cases hl
    · cases hl
theorem resV_spec {φ : Ph} {A : Nat → Prop} {e : VEnv} {vs : List Value} (h : ∀ t x, e.get t = some x → RelV φ A x (vs.getD t undef)) {k : Nat} {v : VV} (hv : resV k e = some v) (hk : vs.length = k) : RelV φ A v (packed vs) := by
  unfold resV at hv
  cases hb : Nat.beq k 1 with
  | true =>
    rw [hb] at hv
    have := Nat.eq_of_beq_eq_true hb
    subst this
    have := h 0 v hv
    match vs, hk with
    | [x], _ => exact this
  | false =>
    rw [hb] at hv
    simp only [cond_false] at hv
    split at hv
    · rename_i l hl
      cases hv
      have := resL_spec h hl (by omega)
      rw [List.drop_zero] at this
      match vs, hk with
      | [], _ => exact ⟨_, rfl, this⟩
      | [x], hk => subst hk; cases hb
      | x :: y :: r, _ => exact ⟨_, rfl, this⟩
    · cases hv
/-- a function called: what it takes is read off, what it gives back is laid -/
def callF (s : FnSpec) (args : List VV) (H : Hp) (nx : Nat) : PT SR :=
  match decL (numbered 0 args) (restrict H (reach H 4 (args.flatMap vvIds))) s.ps with
  | some d =>
    bif Nat.beq args.length s.nargs && (nodupB (d.cm ++ d.cf) && ((fixL s.ps).isEmpty && ((d.cm ++ d.cf).all (fun j => ((restrict H (reach H 4 (args.flatMap vvIds))).get j).isSome)))) then
      .bind (s.fn d.x) fun y =>
        match instL (backM args (begL s.ps d.x).1) s.rs y nx with
        | (e, u, n1) => bif s.rs.all (backOk args (begL s.ps d.x).1) && (plainU u || noBlk (restrict H (reach H 4 (args.flatMap vvIds))) d.cf) then
            (match resV s.nres e with
            | some v => .ret ⟨v, u ++ (bif plainU u then deads d.cm else deads d.cm ++ freeze (restrict H (reach H 4 (args.flatMap vvIds))) d.cf), reach H 4 (args.flatMap vvIds), n1⟩
            | none => .fail)
          else .fail
    else .fail
  | none => .fail
/-- objects that a function called does not see -/
def hids (φ : Ph) (H1 : Hp) (w : World) (M : Nat) (no : List Nat) : List Nat → Hp
  | [] => []
  | j :: r => match H1.get j with
    | some o => bif o.mut && !no.contains j then (match (φ j).addr with
      | some ad => (match w.heap[ad.block]? with | some c => (M + j, .hid c) :: hids φ H1 w M no r | none => hids φ H1 w M no r)
      | none => hids φ H1 w M no r) else hids φ H1 w M no r
    | none => hids φ H1 w M no r
theorem hids_get {φ : Ph} {H1 : Hp} {w : World} {M : Nat} {no : List Nat} {q : Nat} {ob : Obj} : ∀ {ks : List Nat}, (hids φ H1 w M no ks).get q = some ob →
    ∃ j o ad c, q = M + j ∧ H1.get j = some o ∧ o.mut = true ∧ j ∉ no ∧ (φ j).addr = some ad ∧ w.heap[ad.block]? = some c ∧ ob = .hid c := by
  intro ks
  induction ks with
  | nil => intro h; cases h
  | cons k ks ih =>
    intro h
    unfold hids at h
    split at h
    · rename_i o ho
      cases hb : o.mut && !no.contains k with
      | false => rw [hb] at h; exact ih h
      | true =>
        rw [hb] at h
        simp only [cond_true] at h
        simp only [Bool.and_eq_true, Bool.not_eq_true'] at hb
        split at h
        · rename_i ad ha
          split at h
          · rename_i c hc
            by_cases e : M + k = q
            · subst e
              rw [get_self] at h; cases h
              exact ⟨k, o, ad, c, rfl, ho, hb.1, fun hm => (by rw [List.contains_iff_mem.2 hm] at hb; cases hb.2), ha, hc, rfl⟩
            · rw [get_ne _ _ e] at h; exact ih h
          · exact ih h
        · exact ih h
    · exact ih h
theorem hids_mem {φ : Ph} {H1 : Hp} {w : World} {M : Nat} {no : List Nat} {j : Nat} {o : Obj} {ad : Addr} {c : Go.Obj} (ho : H1.get j = some o) (hm : o.mut = true) (hn : j ∉ no) (ha : (φ j).addr = some ad) (hc : w.heap[ad.block]? = some c) :
    ∀ {ks : List Nat}, j ∈ ks → (hids φ H1 w M no ks).get (M + j) = some (.hid c) := by
  intro ks
  induction ks with
  | nil => intro h; cases h
  | cons k ks ih =>
    intro h
    unfold hids
    by_cases e : k = j
    · subst e
      have hnc : no.contains k = false := by
        cases hc : no.contains k with
        | false => rfl
        | true => exact absurd (List.contains_iff_mem.1 hc) hn
      simp only [ho, hm, hnc, Bool.not_false, Bool.and_self, cond_true, ha, hc]
      rw [get_self]
    · have h' := (List.mem_cons.1 h).resolve_left (Ne.symm e)
      have hne : M + k ≠ M + j := by omega
      split
      · rename_i o' ho'
        generalize (o'.mut && !no.contains k) = b
        cases b with
        | false => exact ih h'
        | true =>
          simp only [cond_true]
          split
          · split
            · rw [get_ne _ _ hne]; exact ih h'
            · exact ih h'
          · exact ih h'
      · exact ih h'
theorem keys_mem {u : Hp} {q : Nat} {o : Obj} (h : u.get q = some o) : q ∈ keysH u := by
  by_cases hm : q ∈ keysH u
  · exact hm
  · rw [get_keys hm] at h; cases h
end Go.Sat
end
section
namespace Go.Sat
open Go

theorem all2_len {α β : Type} {R : α → β → Prop} {l : List α} {m : List β} (h : All2 R l m) : l.length = m.length := h.length
theorem ptr_eq {φ φ' : Ph} {A A' : Nat → Prop} {q j : Nat} {v : Value} (h : RelV φ A (.b (.ptr q 0 0 0)) v) (h' : RelV φ' A' (.b (.ptr j 0 0 0)) v) : A q ∧ A' j ∧ (φ q).addr = (φ' j).addr := by
  obtain ⟨h1, ad, h2, h3⟩ := h
  obtain ⟨k1, ad', k2, k3⟩ := h'
  rw [h3] at k3
  simp only [Nat.zero_add, Nat.zero_mul, add_zero, Value.pointer.injEq, Option.some.injEq] at k3
  exact ⟨h1, k1, by rw [h2, k2, k3]⟩
theorem row_eq {φ φ' : Ph} {A A' : Nat → Prop} {q j : Nat} {v : Value} (h : RelV φ A (.b (.row q)) v) (h' : RelV φ' A' (.b (.row j)) v) : A q ∧ A' j ∧ φ q = φ' j := by
  obtain ⟨h1, h2, _⟩ := h
  obtain ⟨k1, k2, _⟩ := h'
  rw [h2] at k2
  simp only [Value.slice.injEq] at k2
  refine ⟨h1, k1, ?_⟩
  cases hp : φ q with
  | mk a1 c1 l1 =>
    cases hp' : φ' j with
    | mk a2 c2 l2 =>
      rw [hp, hp'] at k2
      simp only at k2
      obtain ⟨rfl, rfl, rfl⟩ := k2
      rfl
/-- an owned row, frozen -/
theorem RepO.frozen {φ : Ph} {A N N0 : Nat → Prop} {w : World} {b : Bs} {o o' : Obj} (h : RepO φ A N w b o) (hf : frz o = some o') (hN : ∀ k, N0 k → N k) (hn : ∀ ad, b.addr = some ad → ¬ N0 ad.block) : RepO φ A N0 w b o' :=
  frz_rep hf h (.refl _ _) (Kept.sub hN) (fun _ _ => rfl) hn
section
variable {P : Program}
theorem callF_good {f : FuncId} {s : FnSpec} (hok : FnOk P f s) {args : List VV} {H : Hp} {nx : Nat} {r : SR} (h : PT.Ends (callF s args H nx) r) : nx ≤ r.nx ∧ ∀ (A : Nat → Prop) (φ : Ph) (H1 : Hp) (w : World) (vals : List Value), All2 (fun x v => RelV φ A x v) args vals → RepH A φ H1 w → (∀ j ∈ r.rd, H1.get j = H.get j) → Fresh A nx r.nx →
    Ret P f vals.toArray w (fun v w' => ∃ A' φ', RelV φ' A' r.v v ∧ Stp A φ H1 w A' φ' (r.u ++ H1) w' ∧ ∀ j, A' j → A j ∨ (nx ≤ j ∧ j < r.nx)) := by
  unfold callF at h
  obtain ⟨rd, hrd⟩ : ∃ rd, reach H 4 (args.flatMap vvIds) = rd := ⟨_, rfl⟩
  rw [hrd] at h
  obtain ⟨Hr, hHr⟩ : ∃ Hr, restrict H rd = Hr := ⟨_, rfl⟩
  rw [hHr] at h
  split at h
  · rename_i d hd
    cases hb : Nat.beq args.length s.nargs && (nodupB (d.cm ++ d.cf) && ((fixL s.ps).isEmpty && ((d.cm ++ d.cf).all (fun j => (Hr.get j).isSome)))) with
    | false => rw [hb] at h; exact h.elim
    | true =>
      rw [hb] at h
      simp only [Bool.and_eq_true] at hb
      obtain ⟨b1, b2, b3, b4⟩ := hb
      have b1 := Nat.eq_of_beq_eq_true b1
      have b2 := nodupB_spec b2
      obtain ⟨y, hy, h⟩ := h
      obtain ⟨er, ur, n1, hinst⟩ : ∃ er ur n1, instL (backM args (begL s.ps d.x).1) s.rs y nx = (er, ur, n1) := ⟨_, _, _, rfl⟩
      simp only [hinst] at h
      cases hbk0 : s.rs.all (backOk args (begL s.ps d.x).1) && (plainU ur || noBlk Hr d.cf) with
      | false => rw [hbk0] at h; exact h.elim
      | true =>
        rw [hbk0] at h
        obtain ⟨hbk, hpl⟩ := Bool.and_eq_true_iff.1 hbk0
        simp only [cond_true] at h
        split at h
        · rename_i v hv
          cases h
          have hle : nx ≤ n1 := by have := instL_le (m := backM args (begL s.ps d.x).1) s.rs y nx; rw [hinst] at this; exact this
          refine ⟨hle, fun A φ H1 w vals hargs hH hrdH hfr => ?_⟩
          simp only at hrdH hfr
          have hsubR : Sub Hr H1 := by rw [← hHr]; exact restrict_sub hrdH
          obtain ⟨M, hM, hrun⟩ := hok d.x y hy
          have harg : ∀ t x, VEnv.get (numbered 0 args) t = some x → t < vals.length ∧ RelV φ A x (vals.getD t undef) := fun t x ht => by
            obtain ⟨_, hx⟩ := numbered_get ht
            obtain ⟨u, hu, hr⟩ := hargs.getl (by simpa using hx)
            rw [List.getD_eq_getElem?_getD, hu]
            exact ⟨(List.getElem?_eq_some_iff.1 hu).1, hr⟩
          have hsome : ∀ j, j ∈ d.cm ++ d.cf → ∃ o, H1.get j = some o := fun j hj => by
            have := List.all_eq_true.1 b4 j hj
            cases hg : Hr.get j with
            | none => rw [hg] at this; cases this
            | some o => exact ⟨o, hsubR j o hg⟩
          -- the objects that the function does not see
          obtain ⟨B, hB⟩ : ∃ B, hids φ H1 w M (d.cm ++ d.cf) (keysH H1) = B := ⟨_, rfl⟩
          have hBg : ∀ q ob, B.get q = some ob → ∃ j o ad c, q = M + j ∧ H1.get j = some o ∧ o.mut = true ∧ j ∉ d.cm ++ d.cf ∧ (φ j).addr = some ad ∧ w.heap[ad.block]? = some c ∧ ob = .hid c := fun q ob hq => hids_get (by rw [hB]; exact hq)
          have hBm : ∀ j o ad, H1.get j = some o → o.mut = true → j ∉ d.cm ++ d.cf → (φ j).addr = some ad → ∃ c, B.get (M + j) = some (.hid c) ∧ w.heap[ad.block]? = some c := fun j o ad h1 h2 h3 h4 => by
            have hlow := (hH.obj j o h1).low h2 h4
            exact ⟨_, by rw [← hB]; exact hids_mem h1 h2 h3 h4 (Array.getElem?_eq_getElem hlow) (keys_mem h1), Array.getElem?_eq_getElem hlow⟩
          let Ab : Nat → Prop := fun q => (B.get q).isSome = true
          let φb : Ph := fun q => φ (q - M)
          have hAb : ∀ q, Ab q → M ≤ q := fun q hq => by
            cases hg : B.get q with
            | none => simp only [Ab, hg] at hq; cases hq
            | some ob => obtain ⟨j, _, _, _, rfl, _⟩ := hBg q ob hg; exact Nat.le_add_right _ _
          have hfix : ∀ i ∈ s.ps, i.same id Ab φb φ := fun i hi => by
            have hnil : fixL s.ps = [] := List.isEmpty_iff.1 b3
            cases i with
            | blk j T p => have := fixL_mem hi (List.mem_singleton.2 (rfl : j = j)); rw [hnil] at this; cases this
            | row j t e => have := fixL_mem hi (List.mem_singleton.2 (rfl : j = j)); rw [hnil] at this; cases this
            | rdn j q => have := fixL_mem hi (List.mem_singleton.2 (rfl : j = j)); rw [hnil] at this; cases this
            | rowf j t e => have := fixL_mem hi (List.mem_singleton.2 (rfl : j = j)); rw [hnil] at this; cases this
            | _ => trivial
          obtain ⟨e0, u0, n0, hbeg⟩ : ∃ e0 u0 n0, begL s.ps d.x = (e0, u0, n0) := ⟨_, _, _, rfl⟩
          have hbeg' : instL id s.ps d.x 0 = (e0, u0, n0) := hbeg
          simp only [hbeg] at hM hrun hinst hbk
          obtain ⟨A', φ', hL, hV⟩ := instL_spec hH (E := numbered 0 args) (val := fun t => vals.getD t undef) (fun t x ht => (harg t x ht).2) (m := id) (l := s.ps) (d := d) (lo := 0) (A0 := Ab) (φ0 := φb) (decL_sub hsubR hd) (List.nodup_append.1 b2).1 (fun q _ h2 hq => by rw [hbeg'] at h2; have := hAb q hq; simp only at h2; omega) hfix
          have hVe : ∀ t x, VEnv.get e0 t = some x → RelV φ' A' x (vals.getD t undef) := fun t x ht => hV t x (by rw [hbeg']; exact VEnv.get_mem ht)
          simp only [hbeg'] at hL
          -- entering
          obtain ⟨hrepE, hmbE⟩ := relay hL (B := B) (M := fun k => ∃ j o ad, H1.get j = some o ∧ o.mut = true ∧ j ∉ d.cm ++ d.cf ∧ (φ j).addr = some ad ∧ ad.block = k)
            (fun q ob hq => by simp only [Ab, hq]; rfl)
            (fun N' hN j o hu => hL.rep j o hu N' (fun k hk => by
                rcases hN k hk with ⟨j, o, ad, h1, h2, h3, h4, h5⟩ | ⟨i, oi, ad, _, g2, g3, g4, g5⟩
                · exact ⟨j, o, ad, h1, h2, h4, h5⟩
                · exact ⟨i, oi, ad, g2, g3, g4, g5⟩) fun i hi oi hg hm ad ha hk => by
                rcases hN _ hk with ⟨j, o, ad', h1, h2, h3, h4, h5⟩ | ⟨i', oi', ad', hi', hg', hm', ha', e'⟩
                · exact hH.sep i j oi o ad ad' (fun e => h3 (by rw [← e]; exact List.mem_append_right _ hi)) hg h1 hm h2 ha h4 h5.symm
                · exact hH.sep i' i oi' oi ad' ad ((List.nodup_append.1 b2).2.2 i' hi' i hi) hg' hg hm' hm ha' ha e')
            (fun q ob ad hn hq hm ha => by
              obtain ⟨j, o, ad', c, rfl, h1, h2, h3, h4, h5, rfl⟩ := hBg q ob hq
              have e : φb (M + j) = φ j := by simp only [φb, Nat.add_sub_cancel_left]
              rw [e] at ha
              exact ⟨j, o, ad, h1, h2, h3, ha, rfl⟩)
            (fun i hi oi hg hm ad ha ⟨j, o, ad', h1, h2, h3, h4, h5⟩ => hH.sep i j oi o ad ad' (fun e => h3 (by rw [← e]; exact List.mem_append_left _ hi)) hg h1 hm h2 ha h4 h5.symm)
            (fun q q' o o' ad ad' hne hn hn' hq hq' hm hm' ha ha' => by
              obtain ⟨j, oj, aj, c, rfl, h1, h2, h3, h4, h5, rfl⟩ := hBg q o hq
              obtain ⟨j', oj', aj', c', rfl, k1, k2, k3, k4, k5, rfl⟩ := hBg q' o' hq'
              have e : φb (M + j) = φ j := by simp only [φb, Nat.add_sub_cancel_left]
              have e' : φb (M + j') = φ j' := by simp only [φb, Nat.add_sub_cancel_left]
              rw [e] at ha; rw [e'] at ha'
              exact hH.sep j j' oj oj' ad ad' (fun x => hne (by rw [x])) h1 k1 h2 k2 ha ha')
            (fun N' hN q ob hn hq => by
              obtain ⟨j, o, ad, c, rfl, h1, h2, h3, h4, h5, rfl⟩ := hBg q ob hq
              have e : φb (M + j) = φ j := by simp only [φb, Nat.add_sub_cancel_left]
              rw [e]
              exact ⟨ad, h4, h5⟩)
          have hmbE' : ∀ k, MB φ' (u0 ++ B) k → MB φ H1 k := fun k hk => by
            rcases hmbE k hk with ⟨j, o, ad, h1, h2, _, h4, h5⟩ | ⟨i, oi, ad, _, g2, g3, g4, g5⟩
            · exact ⟨j, o, ad, h1, h2, h4, h5⟩
            · exact ⟨i, oi, ad, g2, g3, g4, g5⟩
          have hu0lt : ∀ q o, u0.get q = some o → q < M := fun q o hq => by
            rcases (hL.ids q o hq).2 with h | h
            · omega
            · rw [List.isEmpty_iff.1 b3] at h; cases h
          have hrun' := hrun A' φ' (u0 ++ B) w vals (fun j o hj => by rw [Hp.get_app, hj]) hrepE (fun t x ht => by
              have hr := hVe t x ht
              by_cases hlt : t < vals.length
              · rw [List.getD_eq_getElem?_getD, List.getElem?_eq_getElem hlt] at hr
                exact ⟨_, List.getElem?_eq_getElem hlt, hr⟩
              · exfalso
                have hm := instL_mem (m := id) (l := s.ps) (d := d.x) (lo := 0) (by rw [hbeg']; exact VEnv.get_mem ht)
                -- the slot was read off an argument
                have key : ∀ {l : List Item} {dd : DcI (St l)}, decL (numbered 0 args) Hr l = some dd → ∀ t ∈ slotsL l, ∃ x, VEnv.get (numbered 0 args) t = some x := by
                  have keyI : ∀ {i : Item} {dd : DcI i.den}, decI (numbered 0 args) Hr i = some dd → ∀ t ∈ i.slots, ∃ x, VEnv.get (numbered 0 args) t = some x := by
                    intro i dd hdd t ht
                    cases i with
                    | slot t' p =>
                      cases List.mem_singleton.1 ht
                      simp only [decI] at hdd
                      split at hdd
                      · rename_i s hs; exact ⟨_, hs⟩
                      · cases hdd
                    | agg t' p =>
                      cases List.mem_singleton.1 ht
                      simp only [decI] at hdd
                      split at hdd
                      · rename_i s hs; exact ⟨_, hs⟩
                      · cases hdd
                    | blk j T p => cases ht
                    | row j t e => cases ht
                    | rdn j q => cases ht
                    | rowf j t e => cases ht
                  intro l
                  induction l with
                  | nil => intro dd _ t ht; cases ht
                  | cons i l ih =>
                    intro dd hdd t ht
                    cases l with
                    | nil => exact keyI hdd t (by simpa [slotsL] using ht)
                    | cons k l =>
                      unfold decL at hdd
                      split at hdd
                      · rename_i h1
                        split at hdd
                        · rename_i h2
                          rcases List.mem_append.1 ht with ht | ht
                          · exact keyI h1 t ht
                          · exact ih h2 t ht
                        · cases hdd
                      · cases hdd
                obtain ⟨x', hx'⟩ := key hd t hm
                exact hlt (harg t x' hx').1)
            (by rw [← all2_len hargs]; exact b1) (fun q h1 h2 hq => by
              rcases hL.only q hq with h | h
              · have := hAb q h; omega
              · omega)
          refine Calls.mono hrun' ?_
          rintro e w' ⟨vv, rfl, A1, φ1, u, E1, dr, vs, hst, hkeys, rfl, hvl, hE1, hdr, rfl, hnd, hlt⟩
          refine ⟨_, rfl, ?_⟩
          -- coming back
          have hsubE : Sub (u ++ u0) (u ++ (u0 ++ B)) := fun j o hj => by rw [← List.append_assoc, Hp.get_app, hj]
          have hdr' := decL_sub hsubE hdr
          have hdarg : ∀ t x, args[t]? = some x → RelV φ A x (vals.getD t undef) := fun t x ht => by
            obtain ⟨z, hz, hr⟩ := hargs.getl ht
            rw [List.getD_eq_getElem?_getD, hz]; exact hr
          have hidAt : ∀ j o ad, H1.get j = some o → o.mut = true → j ∉ d.cm ++ d.cf → (φ j).addr = some ad → ∃ c, Hp.get (u ++ (u0 ++ B)) (M + j) = some (.hid c) ∧ (φ1 (M + j)).addr = some ad ∧ w.heap[ad.block]? = some c := fun j o ad h1 h2 h3 h4 => by
            obtain ⟨c, k1, k2⟩ := hBm j o ad h1 h2 h3 h4
            have n1 : Hp.get (u ++ u0) (M + j) = none := get_keys fun hm => by have := hkeys _ hm; omega
            have hab : Ab (M + j) := by simp only [Ab, k1]; rfl
            have p1 := hL.agree _ hab
            have p2 := hst.agree _ p1.2
            refine ⟨c, by rw [← List.append_assoc, Hp.get_app, n1]; exact k1, ?_, k2⟩
            rw [p2.1, p1.1]
            simp only [φb, Nat.add_sub_cancel_left]; exact h4
          have endblk : ∀ k, MB φ1 (u ++ (u0 ++ B)) k → (∃ j o ad, H1.get j = some o ∧ o.mut = true ∧ j ∉ d.cm ++ d.cf ∧ (φ j).addr = some ad ∧ ad.block = k) ∨ (∃ i oi ad, i ∈ d.cm ∧ H1.get i = some oi ∧ oi.mut = true ∧ (φ i).addr = some ad ∧ ad.block = k) ∨ w.heap.size ≤ k := fun k hk => by
            rcases hst.mb k hk with h | h
            · rcases hmbE k h with h | h
              · exact .inl h
              · exact .inr (.inl h)
            · exact .inr (.inr h)
          have endMB : ∀ k, MB φ1 (u ++ (u0 ++ B)) k → MB φ H1 k ∨ w.heap.size ≤ k := fun k hk => by
            rcases endblk k hk with ⟨j, o, ad, h1, h2, _, h4, h5⟩ | ⟨i, oi, ad, _, g2, g3, g4, g5⟩ | h
            · exact .inl ⟨j, o, ad, h1, h2, h4, h5⟩
            · exact .inl ⟨i, oi, ad, g2, g3, g4, g5⟩
            · exact .inr h
          obtain ⟨A2, φ2, hL2, hV2⟩ := instL_spec hst.rep (E := E1) (val := fun t => vs.getD t undef) hE1 (m := backM args e0) (l := s.rs) (d := dr) (lo := nx) (A0 := A) (φ0 := φ) hdr' (List.nodup_append.1 hnd).1 (by rw [hinst]; exact hfr) (fun i hi => by
            have hbi := List.all_eq_true.1 hbk i hi
            cases i with
            | blk j T p =>
              simp only [backOk] at hbi
              split at hbi
              · rename_i q hbp
                obtain ⟨t, v, v', _, h2, h3, h4⟩ := backAt_spec hbp
                obtain ⟨n, h5⟩ := backIn_spec h4
                rcases h5 with ⟨_, h5, h6⟩ | ⟨h5, _⟩
                · obtain ⟨z, y1, y2⟩ := flat_rel (hdarg t _ (by simpa using h2)) (hVe t _ h3) h5 h6 (fun f vs us h => by obtain ⟨_, ad, _, h⟩ := h; cases h) (fun f vs us h => by obtain ⟨_, ad, _, h⟩ := h; cases h)
                  obtain ⟨z1, z2, z3⟩ := ptr_eq (v := z) y1 y2
                  have e : backM args e0 j = q := by unfold backM; rw [hbp]
                  have p := hst.agree j z2
                  simp only [Item.same, e]
                  exact ⟨z1, z3.trans (congrArg Bs.addr p.1).symm⟩
                · cases h5
              · cases hbi
            | row j t e =>
              simp only [backOk] at hbi
              split at hbi
              · rename_i q hbp
                obtain ⟨t, v, v', _, h2, h3, h4⟩ := backAt_spec hbp
                obtain ⟨n, h5⟩ := backIn_spec h4
                rcases h5 with ⟨h5, _⟩ | ⟨_, h5, h6⟩
                · cases h5
                · obtain ⟨z, y1, y2⟩ := flat_rel (hdarg t _ (by simpa using h2)) (hVe t _ h3) h5 h6 (fun f vs us h => by obtain ⟨_, h, _⟩ := h; cases h) (fun f vs us h => by obtain ⟨_, h, _⟩ := h; cases h)
                  obtain ⟨z1, z2, z3⟩ := row_eq (v := z) y1 y2
                  have e : backM args e0 j = q := by unfold backM; rw [hbp]
                  have p := hst.agree j z2
                  simp only [Item.same, e]
                  exact ⟨z1, z3.trans p.1.symm⟩
              · cases hbi
            | rowf j t e =>
              simp only [backOk] at hbi
              split at hbi
              · rename_i q hbp
                obtain ⟨t, v, v', _, h2, h3, h4⟩ := backAt_spec hbp
                obtain ⟨n, h5⟩ := backIn_spec h4
                rcases h5 with ⟨h5, _⟩ | ⟨_, h5, h6⟩
                · cases h5
                · obtain ⟨z, y1, y2⟩ := flat_rel (hdarg t _ (by simpa using h2)) (hVe t _ h3) h5 h6 (fun f vs us h => by obtain ⟨_, h, _⟩ := h; cases h) (fun f vs us h => by obtain ⟨_, h, _⟩ := h; cases h)
                  obtain ⟨z1, z2, z3⟩ := row_eq (v := z) y1 y2
                  have e : backM args e0 j = q := by unfold backM; rw [hbp]
                  have p := hst.agree j z2
                  simp only [Item.same, e]
                  exact ⟨z1, z3.trans p.1.symm⟩
              · cases hbi
            | rdn j q => cases hbi
            | _ => trivial)
          simp only [hinst] at hL2 hV2
          obtain ⟨F, hF⟩ : ∃ F, (bif plainU ur then deads d.cm else deads d.cm ++ freeze Hr d.cf) = F := ⟨_, rfl⟩
          have hFg : ∀ j o, Hp.get (F ++ H1) j = some o → (o = .dead ∧ j ∈ d.cm) ∨ (plainU ur = false ∧ j ∈ d.cf ∧ ∃ o0, H1.get j = some o0 ∧ frz o0 = some o) ∨ (j ∉ d.cm ∧ H1.get j = some o ∧ (plainU ur = true ∨ j ∉ d.cf ∨ o.mut = false)) := by
            intro j o hj
            rw [← hF] at hj
            cases hp : plainU ur with
            | true =>
              rw [hp] at hj
              rcases deads_app hj with ⟨h1, h2⟩ | ⟨h1, h2⟩
              · exact .inl ⟨h2, h1⟩
              · exact .inr (.inr ⟨h1, h2, .inl rfl⟩)
            | false =>
              rw [hp] at hj
              simp only [cond_false, List.append_assoc] at hj
              rcases deads_app hj with ⟨h1, h2⟩ | ⟨h1, h2⟩
              · exact .inl ⟨h2, h1⟩
              · rw [Hp.get_app] at h2
                cases hfz : (freeze Hr d.cf).get j with
                | some x =>
                  rw [hfz] at h2; cases h2
                  obtain ⟨o0, k1, k2, k3⟩ := freeze_get hfz
                  exact .inr (.inl ⟨rfl, k1, o0, hsubR j _ k2, k3⟩)
                | none =>
                  rw [hfz] at h2
                  refine .inr (.inr ⟨h1, h2, .inr ?_⟩)
                  by_cases hcf : j ∈ d.cf
                  · right
                    have hs := List.all_eq_true.1 b4 j (List.mem_append_right _ hcf)
                    cases hg : Hr.get j with
                    | none => rw [hg] at hs; cases hs
                    | some x =>
                      have hx := hsubR j x hg
                      rw [hx] at h2; cases h2
                      have b5 : noBlk Hr d.cf = true := by rw [hp] at hpl; exact hpl
                      have hnb := List.all_eq_true.1 b5 j hcf
                      rw [hg] at hnb
                      cases o with
                      | own t e l f => rw [freeze_some hcf hg rfl] at hfz; cases hfz
                      | blk T l => rw [freeze_some hcf hg rfl] at hfz; cases hfz
                      | fblk T l => rfl
                      | hid c => cases hnb
                      | rcd bz R => cases hnb
                      | rdn q => cases hnb
                      | ro t l => rfl
                      | dead => rfl
                  · exact .inl hcf
          have live : ∀ j o, Hp.get (F ++ H1) j = some o → o.mut = true → j ∉ d.cm ∧ H1.get j = some o ∧ (plainU ur = true ∨ j ∉ d.cf) := by
            intro j o hj hm
            rcases hFg j o hj with ⟨rfl, _⟩ | ⟨_, _, o0, _, hfo⟩ | ⟨h1, h2, h3⟩
            · cases hm
            · rw [(frz_mut hfo).2] at hm; cases hm
            · refine ⟨h1, h2, ?_⟩
              rcases h3 with h | h | h
              · exact .inl h
              · exact .inr h
              · rw [hm] at h; cases h
          have notin : ∀ j, j ∉ d.cm → j ∉ d.cf → j ∉ d.cm ++ d.cf := fun j h1 h2 h => (List.mem_append.1 h).elim h1 h2
          -- a block that the function may have written is none of those that stay
          have away : ∀ i oi ad, i ∈ dr.cm ++ dr.cf → Hp.get (u ++ (u0 ++ B)) i = some oi → oi.mut = true → (φ1 i).addr = some ad → ∀ j o ad', Hp.get (F ++ H1) j = some o → o.mut = true → (φ j).addr = some ad' → ad.block ≠ ad'.block := by
            intro i oi ad hi hg hm ha j o ad' hj hmj haj e
            obtain ⟨l1, l2, l3⟩ := live j o hj hmj
            by_cases hcf : j ∈ d.cf
            · rcases endblk ad.block ⟨i, oi, ad, hg, hm, ha, rfl⟩ with ⟨j2, o2, ad2, h1, h2, h3, h4, h5⟩ | ⟨i2, o2, ad2, g1, g2, g3, g4, g5⟩ | h
              · exact hH.sep j2 j o2 o ad2 ad' (fun x => h3 (by rw [x]; exact List.mem_append_right _ hcf)) h1 l2 h2 hmj h4 haj (h5.trans e)
              · exact hH.sep i2 j o2 o ad2 ad' ((List.nodup_append.1 b2).2.2 i2 g1 j hcf) g2 l2 g3 hmj g4 haj (g5.trans e)
              · have := (hH.obj j o l2).low hmj haj
                omega
            · obtain ⟨c, k1, k2, _⟩ := hidAt j o ad' l2 hmj (notin j l1 hcf) haj
              exact hst.rep.sep i (M + j) oi _ ad ad' (fun x => by have := hlt i hi; omega) hg k1 hm rfl ha k2 e
          have keptMB : ∀ N' : Nat → Prop, (∀ k, N' k → (∃ j o ad, Hp.get (F ++ H1) j = some o ∧ ur.get j = none ∧ o.mut = true ∧ (φ j).addr = some ad ∧ ad.block = k) ∨ ∃ i oi ad, i ∈ dr.cm ∧ Hp.get (u ++ (u0 ++ B)) i = some oi ∧ oi.mut = true ∧ (φ1 i).addr = some ad ∧ ad.block = k) → Kept (MB φ H1) N' w w' := by
            intro N' hN
            refine ⟨hst.ext.size, fun k hk hn => ⟨hst.ext.same k hk fun hm => hn (hmbE' k hm), fun hk' => ?_⟩⟩
            rcases hN k hk' with ⟨j, o, ad, h1, _, h2, h3, h4⟩ | ⟨i, oi, ad, _, g2, g3, g4, g5⟩
            · exact hn ⟨j, o, ad, (live j o h1 h2).2.1, h2, h3, h4⟩
            · rcases endMB k ⟨i, oi, ad, g2, g3, g4, g5⟩ with h | h
              · exact hn h
              · omega
          have stay : ∀ j o ad, H1.get j = some o → o.mut = true → j ∉ d.cm → (φ j).addr = some ad → w'.heap[ad.block]? = w.heap[ad.block]? := by
            intro j o ad hj hm hcm ha
            by_cases hcf : j ∈ d.cf
            · refine hst.ext.same _ ((hH.obj j o hj).low hm ha) fun hk => ?_
              rcases hmbE _ hk with ⟨j2, o2, ad2, h1, h2, h3, h4, h5⟩ | ⟨i2, o2, ad2, g1, g2, g3, g4, g5⟩
              · exact hH.sep j2 j o2 o ad2 ad (fun x => h3 (by rw [x]; exact List.mem_append_right _ hcf)) h1 hj h2 hm h4 ha h5
              · exact hH.sep i2 j o2 o ad2 ad ((List.nodup_append.1 b2).2.2 i2 g1 j hcf) g2 hj g3 hm g4 ha g5
            · obtain ⟨c, k1, k2, k3⟩ := hidAt j o ad hj hm (notin j hcm hcf) ha
              obtain ⟨ad', q1, q2⟩ := hst.rep.obj _ _ k1
              rw [k2] at q1; cases q1
              rw [q2, k3]
          obtain ⟨hrepR, hmbR⟩ := relay hL2 (B := F ++ H1) (M := fun k => ∃ j o ad, Hp.get (F ++ H1) j = some o ∧ ur.get j = none ∧ o.mut = true ∧ (φ j).addr = some ad ∧ ad.block = k)
            (fun j o hj => by
              rcases hFg j o hj with ⟨_, h⟩ | ⟨_, _, o0, h, _⟩ | ⟨_, h, _⟩
              · obtain ⟨o', ho'⟩ := hsome j (List.mem_append_left _ h); exact hH.dom j o' ho'
              · exact hH.dom j _ h
              · exact hH.dom j o h)
            (fun N' hN j o hu => by
              cases hp : plainU ur with
              | true => exact (hL2.rep j o hu (fun _ => False) (fun _ h => h.elim) fun _ _ _ _ _ _ _ h => h).plain (plainU_get hp hu)
              | false =>
                refine hL2.rep j o hu N' (fun k hk => ?_) fun i hi oi hg hm ad ha hk => ?_
                · rcases hN k hk with ⟨j, o, ad, h1, _, h2, h3, h4⟩ | ⟨i, oi, ad, _, g2, g3, g4, g5⟩
                  · obtain ⟨l1, l2, l3⟩ := live j o h1 h2
                    have hcf : j ∉ d.cf := l3.resolve_left (by rw [hp]; simp)
                    obtain ⟨c, k1, k2, _⟩ := hidAt j o ad l2 h2 (notin j l1 hcf) h3
                    exact ⟨M + j, _, ad, k1, rfl, k2, h4⟩
                  · exact ⟨i, oi, ad, g2, g3, g4, g5⟩
                · rcases hN _ hk with ⟨j, o, ad', h1, _, h2, h3, h4⟩ | ⟨i', oi', ad', hi', hg', hm', ha', e'⟩
                  · exact away i oi ad (List.mem_append_right _ hi) hg hm ha j o ad' h1 h2 h3 h4.symm
                  · exact hst.rep.sep i' i oi' oi ad' ad ((List.nodup_append.1 hnd).2.2 i' hi' i hi) hg' hg hm' hm ha' ha e')
            (fun j o ad hn hj hm ha => ⟨j, o, ad, hj, hn, hm, ha, rfl⟩)
            (fun i hi oi hg hm ad ha ⟨j, o, ad', h1, _, h2, h3, h4⟩ => away i oi ad (List.mem_append_left _ hi) hg hm ha j o ad' h1 h2 h3 h4.symm)
            (fun j j' o o' ad ad' hne _ _ hj hj' hm hm' ha ha' => hH.sep j j' o o' ad ad' hne (live j o hj hm).2.1 (live j' o' hj' hm').2.1 hm hm' ha ha')
            (fun N' hN j o hn hj => by
              rcases hFg j o hj with ⟨rfl, _⟩ | ⟨hp, hcf, o0, hg, hfo⟩ | ⟨hcm, hg, _⟩
              · trivial
              · have hno : ∀ ad, (φ j).addr = some ad → ∀ q oq adq, q ∉ d.cf → H1.get q = some oq → oq.mut = true → (φ q).addr = some adq → adq.block ≠ ad.block := fun ad ha q oq adq hq hgq hmq haq => hH.sep q j oq _ adq ad (fun x => hq (by rw [x]; exact hcf)) hgq hg hmq (frz_mut hfo).1 haq ha
                have hcmcf : ∀ i ∈ d.cm, i ∉ d.cf := fun i h1 h2 => (List.nodup_append.1 b2).2.2 i h1 i h2 rfl
                have h0 := (hH.obj j _ hg).frozen hfo (N0 := fun k => MB φ H1 k ∧ ∃ q oq ad, q ∉ d.cf ∧ H1.get q = some oq ∧ oq.mut = true ∧ (φ q).addr = some ad ∧ ad.block = k) (fun k h => h.1) (fun ad ha ⟨_, q, oq, adq, h1, h2, h3, h4, h5⟩ => hno ad ha q oq adq h1 h2 h3 h4 h5)
                refine h0.kept (.refl _ _) ⟨hst.ext.size, fun k hk hn0 => ⟨hst.ext.same k hk fun hm => hn0 ⟨hmbE' k hm, ?_⟩, fun hk' => hn0 ?_⟩⟩ fun hm => (by rw [(frz_mut hfo).2] at hm; cases hm)
                · rcases hmbE k hm with ⟨j2, o2, ad2, h1, h2, h3, h4, h5⟩ | ⟨i2, o2, ad2, g1, g2, g3, g4, g5⟩
                  · exact ⟨j2, o2, ad2, fun x => h3 (List.mem_append_right _ x), h1, h2, h4, h5⟩
                  · exact ⟨i2, o2, ad2, hcmcf i2 g1, g2, g3, g4, g5⟩
                · rcases hN k hk' with ⟨j2, o2, ad2, h1, _, h2, h3, h4⟩ | ⟨i, oi, ad, _, g2, g3, g4, g5⟩
                  · obtain ⟨l1, l2, l3⟩ := live j2 o2 h1 h2
                    exact ⟨⟨j2, o2, ad2, l2, h2, h3, h4⟩, j2, o2, ad2, l3.resolve_left (by rw [hp]; simp), l2, h2, h3, h4⟩
                  · rcases endblk k ⟨i, oi, ad, g2, g3, g4, g5⟩ with ⟨j2, o2, ad2, h1, h2, h3, h4, h5⟩ | ⟨i2, o2, ad2, g1, g2, g3, g4, g5⟩ | h
                    · exact ⟨⟨j2, o2, ad2, h1, h2, h4, h5⟩, j2, o2, ad2, fun x => h3 (List.mem_append_right _ x), h1, h2, h4, h5⟩
                    · exact ⟨⟨i2, o2, ad2, g2, g3, g4, g5⟩, i2, o2, ad2, hcmcf i2 g1, g2, g3, g4, g5⟩
                    · omega
              · exact (hH.obj j o hg).kept (.refl _ _) (keptMB N' hN) fun hm ad ha => stay j o ad hg hm hcm ha)
          refine ⟨A2, φ2, resV_spec (fun t x ht => hV2 t x (VEnv.get_mem ht)) hv hvl, ⟨?_, hL2.agree, hst.ext.mono hmbE', fun k hk => ?_⟩, hL2.only⟩
          · simp only [hF, List.append_assoc]; exact hrepR
          · simp only [hF, List.append_assoc] at hk
            rcases hmbR k hk with ⟨j, o, ad, h1, _, h2, h3, h4⟩ | ⟨i, oi, ad, _, g2, g3, g4, g5⟩
            · exact .inl ⟨j, o, ad, (live j o h1 h2).2.1, h2, h3, h4⟩
            · exact endMB k ⟨i, oi, ad, g2, g3, g4, g5⟩
        · exact h.elim
  · exact h.elim
end
end Go.Sat
end
section
namespace Go.Sat
open Go

/-- a number as an integer -/
@[reducible] def zi (n : Nat) : Int := (n : Int)
/-- a choice between two, the value first -/
@[reducible] def selim {α β γ : Type} (x : α ⊕ β) (f : α → γ) (g : β → γ) : γ := Sum.elim f g x
/-- nothing, of a type that is said -/
@[reducible] def noneOf (α : Type) : Option α := none
def callerOf : List (FuncId × FnSpec) → Caller
  | [], _, _, _, _ => .fail
  | _, .yld _, _, _, _ => .fail
  | (f', s) :: r, .fn f, args, H, nx => bif Nat.beq f' f && (decL (numbered 0 args) (restrict H (reach H 4 (args.flatMap vvIds))) s.ps).isSome then callF s args H nx else callerOf r (.fn f) args H nx
inductive Known (P : Program) : List (FuncId × FnSpec) → Prop
  | nil : Known P []
  | cons {f : FuncId} {s : FnSpec} {r : List (FuncId × FnSpec)} (h : FnOk P f s) (k : Known P r) : Known P ((f, s) :: r)
theorem Known.goodF {P : Program} {l : List (FuncId × FnSpec)} (h : Known P l) : GoodF P (callerOf l) := by
  induction h with
  | nil => intro f args H nx r h; exact h.elim
  | @cons f s l h k ih =>
    intro f' args H nx r hr
    unfold callerOf at hr
    cases hb : Nat.beq f f' && (decL (numbered 0 args) (restrict H (reach H 4 (args.flatMap vvIds))) s.ps).isSome with
    | false => rw [hb] at hr; exact ih f' args H nx r hr
    | true =>
      rw [hb] at hr
      have := Nat.eq_of_beq_eq_true (Bool.and_eq_true_iff.1 hb).1
      subst this
      exact callF_good h hr
theorem Known.good {P : Program} {l : List (FuncId × FnSpec)} (h : Known P l) (L : List (Nat × RecD)) : GoodG P L (callerOf l) := ⟨h.goodF, fun j args H nx r h => by cases l <;> exact h.elim⟩
theorem Known.app {P : Program} {l m : List (FuncId × FnSpec)} (h : Known P l) (k : Known P m) : Known P (l ++ m) := by
  induction h with
  | nil => exact k
  | cons h _ ih => exact .cons h ih
def bodyOf (fn : Func) : Code := match fn.body with | some c => c | none => .skip
/-- a function's contract, its pure function given -/
def spec (fn : Func) (ps rs : List Item) (f : St ps → Option (St rs)) : FnSpec := ⟨fn.params.size + fn.nfree, ps, rs, fn.results.size, f⟩
/-- what the code, read, comes to -/
noncomputable def denP (P : Program) (tbl : List (FuncId × FnSpec)) (fn : Func) (t : AT) (ps rs : List Item) (x : St ps) : PT (St rs) := denF P (iter P 3) (callerOf tbl) fn.ntmps (bodyOf fn) t ps rs fn.results.toList x
theorem fn_known {P : Program} (hm : P.follows .mixedOrders = true) {tbl : List (FuncId × FnSpec)} (hk : Known P tbl) {f : FuncId} {fn : Func} (t : AT) {ps rs : List Item} {g : St ps → Option (St rs)} (hf : P.funcs[f]? = some fn) (hb : fn.body.isSome = true) (hl : Nat.ble (fn.params.size + fn.nfree) fn.ntmps = true)
    (he : g = fun x => PT.run (denP P tbl fn t ps rs x)) : FnOk P f (spec fn ps rs g) := by
  subst he
  have hbody : fn.body = some (bodyOf fn) := by
    unfold bodyOf
    cases h : fn.body with
    | none => rw [h] at hb; cases hb
    | some c => rfl
  exact fn_ok (t := t) hm (iter_good hm 3) (hk.good []) hf hbody rfl (Nat.le_of_ble_eq_true hl) (by simp [spec]) fun x => rfl
end Go.Sat
end
section
namespace Go.Sat
open Go

def no (_ : Nat) : Prop := False
/-- a value says x -/
def argOk (w : World) (val : Nat → Value) : (i : Item) → i.den → Prop
  | .slot t (.ty ty), x => RepD no w ty [val t] x
  | .agg t (.ty ty), x => ∃ cs : List Value, val t = .agg cs.toArray ∧ RepD no w ty cs x
  | _, _ => False
def argsOk (w : World) (val : Nat → Value) : (l : List Item) → St l → Prop
  | [], _ => True
  | [i], x => argOk w val i x
  | i :: j :: r, x => argOk w val i x.1 ∧ argsOk w val (j :: r) x.2
structure Begun (A : Nat → Prop) (φ : Ph) (w : World) (val : Nat → Value) (lo hi : Nat) (e : List (Nat × VV)) (u : Hp) (A' : Nat → Prop) (φ' : Ph) : Prop where
  le : lo ≤ hi
  agree : Agree φ φ' A A'
  only : ∀ j, A' j → A j ∨ (lo ≤ j ∧ j < hi)
  objs : ∀ j o, u.get j = some o → lo ≤ j ∧ j < hi ∧ A' j ∧ o.mut = false ∧ ∀ (N' : Nat → Prop) (w' : World), Kept no N' w w' → RepO φ' A' N' w' (φ' j) o
  env : ∀ t x, (t, x) ∈ e → RelV φ' A' x (val t)
section
variable {w : World} {val : Nat → Value}
theorem begun_one {i : Item} {x : i.den} {A : Nat → Prop} {φ : Ph} {lo : Nat} (h : argOk w val i x) (hf : Fresh A lo (instI id i x lo).2.2) : ∃ A' φ', Begun A φ w val lo (instI id i x lo).2.2 (instI id i x lo).1 (instI id i x lo).2.1 A' φ' := by
  cases i with
  | slot t p =>
    cases p with
    | ty ty =>
      have h : RepD no w ty [val t] x := h
      obtain ⟨A', φ', hop, hG⟩ := openT_spec (A := A) (φ := φ) (lo := lo) h hf
      refine ⟨A', φ', hop.le, hop.agree, hop.only, hop.objs, fun t' y hy => ?_⟩
      have hy' : (t', y) ∈ slotOf t (openT ty x lo).1 := hy
      unfold slotOf at hy'
      split at hy'
      · rename_i s hs
        rw [hs] at hG
        obtain ⟨c, cs', e, k1, _, _⟩ := hG
        simp only [List.mem_singleton, Prod.mk.injEq] at hy'
        obtain ⟨rfl, rfl⟩ := hy'
        rw [(List.cons.inj e).1]; exact k1
      · cases hy'
    | _ => exact h.elim
  | agg t p =>
    cases p with
    | ty ty =>
      obtain ⟨cs, hv, h⟩ : ∃ cs : List Value, val t = .agg cs.toArray ∧ RepD no w ty cs x := h
      obtain ⟨A', φ', hop, hG⟩ := openT_spec (A := A) (φ := φ) (lo := lo) h hf
      refine ⟨A', φ', hop.le, hop.agree, hop.only, hop.objs, fun t' y hy => ?_⟩
      have hy' : (t', y) ∈ [(t, VV.a (.agg (openT ty x lo).1))] := hy
      simp only [List.mem_singleton, Prod.mk.injEq] at hy'
      obtain ⟨rfl, rfl⟩ := hy'
      exact ⟨cs, hv, hG⟩
    | _ => exact h.elim
  | blk j T p => exact h.elim
  | row j t e => exact h.elim
  | rdn j q => exact h.elim
  | rowf j t e => exact h.elim
theorem begun : ∀ {l : List Item} {x : St l} {A : Nat → Prop} {φ : Ph} {lo : Nat}, argsOk w val l x → Fresh A lo (instL id l x lo).2.2 → ∃ A' φ', Begun A φ w val lo (instL id l x lo).2.2 (instL id l x lo).1 (instL id l x lo).2.1 A' φ' := by
  intro l
  induction l with
  | nil =>
    intro x A φ lo _ _
    exact ⟨A, φ, Nat.le_refl _, .refl _ _, fun _ h => .inl h, fun j o h => (by cases h), fun t x h => (by cases h)⟩
  | cons i r ih =>
    intro x A φ lo h hf
    cases r with
    | nil => exact begun_one (i := i) h hf
    | cons k r =>
      obtain ⟨e1, u1, n1, q1⟩ : ∃ e1 u1 n1, instI id i x.1 lo = (e1, u1, n1) := ⟨_, _, _, rfl⟩
      obtain ⟨e2, u2, n2, q2⟩ : ∃ e2 u2 n2, instL id (k :: r) x.2 n1 = (e2, u2, n2) := ⟨_, _, _, rfl⟩
      have einst : instL id (i :: k :: r) x lo = (e1 ++ e2, u1 ++ u2, n2) := by simp only [instL, q1, q2]
      simp only [einst] at hf ⊢
      have hle : n1 ≤ n2 := by have := instL_le (m := id) (k :: r) x.2 n1; rw [q2] at this; exact this
      obtain ⟨A1, φ1, h1⟩ := begun_one (i := i) (lo := lo) (φ := φ) h.1 (by rw [q1]; exact hf.before hle)
      simp only [q1] at h1
      obtain ⟨A2, φ2, h2⟩ := ih (x := x.2) (lo := n1) (φ := φ1) h.2 (by rw [q2]; exact hf.after h1.only h1.le)
      simp only [q2] at h2
      refine ⟨A2, φ2, Nat.le_trans h1.le h2.le, h1.agree.trans h2.agree, fun j hj => ?_, fun j o hj => ?_, fun t y hy => ?_⟩
      · rcases h2.only j hj with h | h
        · exact (h1.only j h).imp id fun h => ⟨h.1, Nat.lt_of_lt_of_le h.2 hle⟩
        · exact .inr ⟨Nat.le_trans h1.le h.1, h.2⟩
      · rw [Hp.get_app] at hj
        cases hu : u1.get j with
        | some o' =>
          rw [hu] at hj; cases hj
          obtain ⟨a, b, c, d, e⟩ := h1.objs j o hu
          refine ⟨a, Nat.lt_of_lt_of_le b hle, (h2.agree j c).2, d, fun N' w' hk => ?_⟩
          rw [(h2.agree j c).1]
          exact (e N' w' hk).kept h2.agree (Kept.refl _ _) fun hm => (by rw [d] at hm; cases hm)
        | none =>
          rw [hu] at hj
          obtain ⟨a, b, c, d, e⟩ := h2.objs j o hj
          exact ⟨Nat.le_trans h1.le a, b, c, d, e⟩
      · rcases List.mem_append.1 hy with hy | hy
        · exact (h1.env t y hy).up h2.agree
        · exact h2.env t y hy
variable {P : Program}
/-- A law: the function's contract, at arguments that say x, and its pure function tells true. -/
theorem law_calls {f : FuncId} {s : FnSpec} (h : FnOk P f s) (hr : s.nres = 1) {q : St s.rs} (hq : ∀ (E : VEnv) (H : Hp) (d : DcI (St s.rs)), decL E H s.rs = some d → d.x = q → E.get 0 = some (VV.bool true)) {x : St s.ps} (hx : s.fn x = some q)
    {vals : List Value} (hl : vals.length = s.nargs) (ha : argsOk w (fun t => vals.getD t undef) s.ps x) (hs : ∀ t ∈ slotsL s.ps, t < s.nargs) : Ret P f vals.toArray w (fun v w' => v = .bool true ∧ Grow w w') := by
  obtain ⟨M, hM, hrun⟩ := h x q hx
  obtain ⟨A, φ, hb⟩ := begun (l := s.ps) (x := x) (A := no) (φ := fun _ => ⟨none, 0, 0⟩) (lo := 0) ha (fun j _ _ h => h)
  have hno : ∀ k, ¬ MB φ (begL s.ps x).2.1 k := fun k ⟨j, o, ad, h1, h2, _⟩ => by
    obtain ⟨_, _, _, hm, _⟩ := hb.objs j o h1
    rw [hm] at h2; cases h2
  have hH : RepH A φ (begL s.ps x).2.1 w := ⟨fun j o hj => (hb.objs j o hj).2.2.1, fun j o hj => (hb.objs j o hj).2.2.2.2 _ w ⟨Nat.le_refl _, fun k _ _ => ⟨rfl, hno k⟩⟩, fun j j' o o' ad ad' _ h1 _ hm => by
    obtain ⟨_, _, _, hm', _⟩ := hb.objs j o h1
    rw [hm'] at hm; cases hm⟩
  refine (hrun A φ _ w vals (Sub.refl _) hH (fun t v ht => ?_) hl (fun j h1 h2 hA => ?_)).mono ?_
  · have hm := VEnv.get_mem ht
    have hlt : t < vals.length := by rw [hl]; exact hs t (instL_mem (m := id) hm)
    have hv := hb.env t v hm
    rw [List.getD_eq_getElem?_getD, List.getElem?_eq_getElem hlt] at hv
    exact ⟨_, List.getElem?_eq_getElem hlt, hv⟩
  · rcases hb.only j hA with h | h
    · exact h
    · have : (begL s.ps x).2.2 = (instL id s.ps x 0).2.2 := rfl
      omega
  · rintro v w' ⟨A1, φ1, u, E1, d, vs, hst, _, rfl, hvl, hE, hd, hdx, _, _⟩
    have h0 := hE 0 _ (hq E1 _ d hd hdx)
    rw [hr] at hvl
    match vs, hvl with
    | [y], _ => exact ⟨h0, hst.ext.mono fun k hk => hno k hk⟩
/-- the one result that a law has -/
theorem true_slot {E : VEnv} {H : Hp} {d : DcI (St [.slot 0 (.ty .bool)])} (hd : decL E H [.slot 0 (.ty .bool)] = some d) (hx : d.x = true) : E.get 0 = some (VV.bool true) := by
  have hd : decI E H (.slot 0 (.ty .bool)) = some d := hd
  simp only [decI] at hd
  split at hd
  · rename_i s hs
    cases hu : undefS s with
    | true => rw [hu] at hd; cases hd
    | false =>
      rw [hu] at hd
      have h1 := whole_spec hd
      unfold decS at h1
      split at h1
      · rename_i y hy
        cases hb : rdOk H (segIds ([Seg.one s].take Ty.bool.nseg)) with
        | false => rw [hb] at h1; cases h1
        | true =>
          rw [hb] at h1
          simp only [cond_true, Option.some.injEq, Dec.mk.injEq] at h1
          have e : y = true := h1.1.trans hx
          subst e
          have hy' : closeT H .bool [Seg.one s] = some (true, []) := hy
          unfold closeT at hy'
          split at hy'
          · rename_i b r heq
            cases heq
            cases hy'
            exact hs
          · cases hy'
      · cases h1
  · cases hd
end
end Go.Sat
end
section
namespace Go.Sat
open Go

theorem ints_of {k : IntKind} : ∀ {cs : List Value}, (∀ u ∈ cs, ∃ x, u = Value.int k x) → ∃ xs, cs = ints k xs := by
  intro cs
  induction cs with
  | nil => intro _; exact ⟨[], rfl⟩
  | cons c cs ih =>
    intro h
    obtain ⟨x, rfl⟩ := h c (List.mem_cons_self ..)
    obtain ⟨xs, rfl⟩ := ih fun u hu => h u (List.mem_cons_of_mem _ hu)
    exact ⟨x :: xs, rfl⟩
theorem over_ok {P : Program} {f : FuncId} {k : IntKind} {e : TypeId} {F : St [.slot 0 (.wnd (.int k) e true)] → Option (St [])} (h : FnOk P f ⟨1, [.slot 0 (.wnd (.int k) e true)], [], 0, F⟩)
    (hF : ∀ x : St [.slot 0 (.wnd (.int k) e true)], (x.1 ++ (x.2.1 ++ x.2.2)).length ≤ maxLen → F x = some ()) : FnOk P f ⟨1, [.slot 0 (.wnd (.int k) e false)], [], 0, fun _ => some ()⟩ := by
  intro x y _
  refine ⟨1, Nat.le_refl _, fun A φ H1 w vals hsub hH hvals hlen _ => ?_⟩
  have hg : H1.get 0 = some (.own (.int k) e (x.1 ++ (x.2.1 ++ x.2.2)) false) := hsub 0 _ rfl
  obtain ⟨v, hv, hr⟩ := hvals 0 _ rfl
  obtain ⟨hA, a, c, e1, k1, k2, k3, k4, k5, k6, k7⟩ := hr
  obtain ⟨css, q1, q2, q3, q4, q5, q6⟩ := hH.obj 0 _ hg
  rw [flat_ints q1] at q2
  have hsp : ∃ sp : List Int, ((x.1 ++ (x.2.1 ++ x.2.2)) ++ sp).length = (φ 0).cap ∧ (φ 0).cap ≤ maxLen ∧ ∀ (φ' : Ph) (A' N : Nat → Prop), RepO φ' A' N w ⟨(φ 0).addr, (φ 0).cap, (φ 0).cap⟩ (.own (.int k) e ((x.1 ++ (x.2.1 ++ x.2.2)) ++ sp) true) := by
    cases ha : (φ 0).addr with
    | none =>
      have hc := q5 ha
      have hl : List.length (x.1 ++ (x.2.1 ++ x.2.2)) = 0 := by
        have k6' : (x.1 : List Int).length + (x.2.1 : List Int).length ≤ (φ 0).clen := k6
        have hlc : List.length (x.1 ++ (x.2.1 ++ x.2.2)) ≤ (φ 0).cap := by
          obtain ⟨_, _, e2, h7, _⟩ := own_slice q2
          cases e2; exact h7
        omega
      have hn : x.1 ++ (x.2.1 ++ x.2.2) = ([] : List Int) := List.eq_nil_of_length_eq_zero hl
      refine ⟨[], by rw [hn, hc]; rfl, by rw [hc]; exact Nat.zero_le _, fun φ' A' N => ?_⟩
      rw [hn, hc]
      exact ⟨[], trivial, ⟨by simp, .inl ⟨rfl, rfl⟩⟩, rfl, fun _ => rfl, fun _ => rfl, fun _ _ ad _ _ ha => (by cases ha)⟩
    | some ad =>
      rw [ha] at q2 q6
      obtain ⟨ead, sp, hB, hcl, hcm⟩ := own_addr q2 rfl
      obtain ⟨spI, rfl⟩ := ints_of (k := k) (cs := sp) fun u hu => q6 k rfl ad _ e rfl hB u (List.mem_append_right _ hu)
      rw [← ints_append] at hB
      have hlen' : ((x.1 ++ (x.2.1 ++ x.2.2)) ++ spI).length = (φ 0).cap := by
        have : (ints k (x.1 ++ (x.2.1 ++ x.2.2)) ++ ints k spI).length = (φ 0).cap * 1 := hcl
        rw [List.length_append, length_ints, length_ints] at this
        rw [List.length_append]; omega
      refine ⟨spI, hlen', hcm, fun φ' A' N => ?_⟩
      have := own_ints (φ := φ') (A := A') (N := N) (xs := (x.1 ++ (x.2.1 ++ x.2.2)) ++ spI) (sp := []) (C := (φ 0).cap) (full := true) (by rw [List.append_nil]; exact hB) (by rw [hlen']; rfl) hcm fun _ => rfl
      rw [hlen'] at this
      rw [ead]
      exact this
  obtain ⟨sp, hl, hm, hrep⟩ := hsp
  obtain ⟨x', hx'⟩ : ∃ x' : St [.slot 0 (.wnd (.int k) e true)], ((x.1, x.2.1, x.2.2 ++ sp) : List Int × List Int × List Int) = x' := ⟨_, rfl⟩
  have hcat : x'.1 ++ (x'.2.1 ++ x'.2.2) = (x.1 ++ (x.2.1 ++ x.2.2)) ++ sp := by rw [← hx']; simp only [List.append_assoc]
  obtain ⟨M, hM, hrun⟩ := h x' () (hF x' (by rw [hcat, hl]; exact hm))
  have hH' : RepH (fun j => j = 0) (fun _ => ⟨(φ 0).addr, (φ 0).cap, (φ 0).cap⟩) [(0, .own (.int k) e (x'.1 ++ (x'.2.1 ++ x'.2.2)) true)] w := by
    refine ⟨fun j o hj => (get_one hj).1, fun j o hj => ?_, fun j j' o o' ad ad' hne hj hj' => ?_⟩
    · obtain ⟨rfl, rfl⟩ := get_one hj
      rw [hcat]; exact hrep _ _ _
    · exact absurd ((get_one hj).1.trans (get_one hj').1.symm) hne
  have k6' : (x.1 : List Int).length + (x.2.1 : List Int).length ≤ (φ 0).clen := k6
  have hclen : (φ 0).clen ≤ (φ 0).cap := by
    have : (φ 0).clen = List.length (x.1 ++ (x.2.1 ++ x.2.2)) := q3
    rw [this, ← hl, @List.length_append _ (x.1 ++ (x.2.1 ++ x.2.2)) _]
    exact Nat.le_add_right _ _
  have hret := hrun (fun j => j = 0) (fun _ => ⟨(φ 0).addr, (φ 0).cap, (φ 0).cap⟩) [(0, .own (.int k) e (x'.1 ++ (x'.2.1 ++ x'.2.2)) true)] w vals (Sub.refl _) hH' (fun t u ht => by
      have ht' : VEnv.get [(0, VV.a (.one (.b (.sl 0 0 (x'.1 : List Int).length 1 (x'.2.1 : List Int).length none))))] t = some u := ht
      simp only [VEnv.get] at ht'
      cases hb : Nat.beq 0 t with
      | false => rw [hb] at ht'; cases ht'
      | true =>
        rw [hb] at ht'
        cases ht'
        have := Nat.eq_of_beq_eq_true hb
        subst this
        rw [← hx']
        exact ⟨v, hv, rfl, a, c, e1, k1, k2, k3, k4, k5, Nat.le_trans k6' hclen, k7⟩) hlen (fun j h1 _ hj => by
      have h1' : 1 ≤ j := h1
      have hj' : j = 0 := hj
      omega)
  refine hret.mono ?_
  rintro v' w' ⟨A1, φ1, u, E1, d, vs, hst, _, rfl, hvl, _⟩
  have hmb : ∀ q, MB (fun _ => ⟨(φ 0).addr, (φ 0).cap, (φ 0).cap⟩) [(0, .own (.int k) e (x'.1 ++ (x'.2.1 ++ x'.2.2)) true)] q → ∃ ad, (φ 0).addr = some ad ∧ ad.block = q := fun q ⟨j, o, ad, _, _, h3, h4⟩ => ⟨ad, h3, h4⟩
  refine ⟨A, φ, [(0, .dead)], [], ⟨(), [], []⟩, vs, ?_, fun j hj => ?_, rfl, hvl, fun t x ht => (by cases ht), rfl, rfl, List.nodup_nil, fun j hj => (by cases hj)⟩
  · refine Stp.turn hH hg rfl (fun q hq hne => hst.ext.same q hq fun hm => ?_) (hst.ext.mono fun q hq => ?_) fun _ _ => trivial
    · obtain ⟨ad, h1, h2⟩ := hmb q hm
      exact hne ad h1 h2.symm
    · obtain ⟨ad, h1, h2⟩ := hmb q hq
      rw [← h2]; exact MB.of hg rfl h1
  · have hj' : j ∈ [0, 0] := hj
    simp at hj'
    omega
end Go.Sat
end
section
namespace Go.Sat
open Go

def Fits : (t : Ty) → t.den → Prop
  | .int k, x => (Lit.int k x).wf = true
  | .bool, _ => True
  | .str, x => x.size ≤ maxLen
  | .raw, _ => True
  | .arr k _, x => ∀ z ∈ x.l, (Lit.int k z).wf = true
  | .pr a b, x => Fits a x.1 ∧ Fits b x.2
  | .sl t, x => ∀ (j : Nat) y, x[j]? = some y → Fits t y
/-- no row of what came in is longer than M -/
def Bnd (M : Nat) : (t : Ty) → t.den → Prop
  | .sl t, x => List.length x ≤ M ∧ ∀ (j : Nat) y, x[j]? = some y → Bnd M t y
  | _, _ => True
def isInt (P : Program) (t : TypeId) (k : IntKind) : Bool := match P.underlying t with | some (.int k') => decide (k' = k) | _ => false
def partsOk (P : Program) (ok : Ty → TypeId → Bool) : List Field → Ty → Nat → Bool
  | [f], ty, off => ok ty f.type && (Nat.beq f.offset off && Nat.beq (P.cellsOf f.type) ty.size)
  | f :: g :: r, .pr a b, off => ok a f.type && (Nat.beq f.offset off && (Nat.beq (P.cellsOf f.type) a.size && partsOk P ok (g :: r) b (off + a.size)))
  | _, _, _ => false
def argT (P : Program) : Nat → Ty → TypeId → Bool
  | 0, _, _ => false
  | _ + 1, .int k, t => isInt P t k
  | _ + 1, .bool, t => match P.underlying t with | some .bool => true | _ => false
  | _ + 1, .str, t => match P.underlying t with | some .string => true | _ => false
  | _ + 1, .raw, _ => false
  | _ + 1, .arr k n, t => match P.underlying t with | some (.array m e) => Nat.beq m n && (isInt P e k && (Nat.beq (P.cellsOf e) 1 && Nat.beq (P.cellsOf t) n)) | _ => false
  | q + 1, .sl ty, t => match P.underlying t with | some (.slice e) => argT P q ty e && (Nat.beq (P.cellsOf e) ty.size && (Nat.ble 1 ty.size && Nat.ble 1 (P.bytesOf e))) | _ => false
  | q + 1, .pr a b, t => match P.underlying t with | some (.struct fs) => partsOk P (argT P q) fs.toList (.pr a b) 0 && Nat.beq (P.cellsOf t) (Ty.pr a b).size | _ => false
theorem isInt_spec {P : Program} {t : TypeId} {k : IntKind} (h : isInt P t k = true) : P.underlying t = some (.int k) := by
  unfold isInt at h
  split at h
  · rename_i k' e; rw [e, of_decide_eq_true h]
  · cases h
section
variable {H : Type} {enc : TypeId × Value → H} {P : Program} {w : World} {base : Nat} {spare : Nat → Bool} {held : Bool}
def Rep1 (P : Program) (w : World) (enc : TypeId × Value → H) (base : Nat) (spare : Nat → Bool) (held : Bool) (ok : Ty → TypeId → Bool) : Prop :=
  ∀ (ty : Ty) (t : TypeId) (fuel : Nat) (cs : List Value) x, ok ty t = true → DataW.trod enc P w base spare held fuel t cs = some x →
    ∃ y : ty.den, RepD no w ty cs y ∧ Fits ty y ∧ ∀ M, (∀ n ∈ x.1.weights P t, n ≤ M) → Bnd M ty y
theorem parts_rep {ok : Ty → TypeId → Bool} (hok : Rep1 P w enc base spare held ok) {m : Nat} {cs : List Value} : ∀ {fs : List Field} {ty : Ty} {off : Nat}, partsOk P ok fs ty off = true →
    (∀ f ∈ fs, ∃ x, DataW.trod enc P w base spare held m f.type ((cs.drop f.offset).take (P.cellsOf f.type)) = some x) → off + ty.size ≤ cs.length →
    ∃ y : ty.den, RepD no w ty ((cs.drop off).take ty.size) y ∧ Fits ty y := by
  intro fs
  induction fs with
  | nil => intro ty off h; cases h
  | cons f r ih =>
    intro ty off h hx hl
    cases r with
    | nil =>
      have h : (ok ty f.type && (Nat.beq f.offset off && Nat.beq (P.cellsOf f.type) ty.size)) = true := by
        cases ty <;> exact h
      simp only [Bool.and_eq_true] at h
      obtain ⟨h1, h2, h3⟩ := h
      obtain ⟨x, hx⟩ := hx f (List.mem_cons_self ..)
      rw [Nat.eq_of_beq_eq_true h2, Nat.eq_of_beq_eq_true h3] at hx
      exact let ⟨y, r1, r2, _⟩ := hok ty _ _ _ _ h1 hx; ⟨y, r1, r2⟩
    | cons g r =>
      cases ty with
      | pr a b =>
        have h : (ok a f.type && (Nat.beq f.offset off && (Nat.beq (P.cellsOf f.type) a.size && partsOk P ok (g :: r) b (off + a.size)))) = true := h
        simp only [Bool.and_eq_true] at h
        obtain ⟨h1, h2, h3, h4⟩ := h
        have hsz : (Ty.pr a b).size = a.size + b.size := rfl
        rw [hsz] at hl ⊢
        obtain ⟨x, hx1⟩ := hx f (List.mem_cons_self ..)
        rw [Nat.eq_of_beq_eq_true h2, Nat.eq_of_beq_eq_true h3] at hx1
        obtain ⟨y1, r1, f1, _⟩ := hok a _ _ _ _ h1 hx1
        obtain ⟨y2, r2, f2⟩ := ih (ty := b) h4 (fun f' hf' => hx f' (List.mem_cons_of_mem _ hf')) (by omega)
        refine ⟨(y1, y2), ⟨_, _, ?_, r1, r2⟩, f1, f2⟩
        rw [List.take_add, List.drop_drop]
      | _ => cases h
theorem cells_row {a : Addr} {sz : Nat} {len : Nat} {css : List (List Value)} (hl : css.length = len) (h : ∀ i, i < len → ∃ cs, css[i]? = some cs ∧ w.cells? base (a.add (i * sz)) sz = some cs) : Row w (some a) css.flatten := by
  have key : ∀ (l : List (List Value)) (k : Nat), (∀ i cs, l[i]? = some cs → w.cells? base (a.add ((k + i) * sz)) sz = some cs) → Row w (some (a.add (k * sz))) l.flatten := by
    intro l
    induction l with
    | nil => intro k _; exact Row.nil _ _
    | cons c l ih =>
      intro k hk j v hj
      obtain ⟨_, h2, h3⟩ := World.cells?_some (hk 0 c rfl)
      rw [List.flatten_cons] at hj
      by_cases hjc : j < c.length
      · rw [List.getElem?_append_left hjc] at hj
        refine ⟨_, rfl, ?_⟩
        have := h3 j (by omega)
        rw [Nat.add_zero] at this
        rw [this]; exact hj
      · rw [List.getElem?_append_right (by omega)] at hj
        obtain ⟨ad, e, hv⟩ := ih (k + 1) (fun i cs hi => by
          have := hk (i + 1) cs (by rw [List.getElem?_cons_succ]; exact hi)
          rw [show k + 1 + i = k + (i + 1) by omega]; exact this) _ _ hj
        cases e
        refine ⟨_, rfl, ?_⟩
        rw [add_add] at hv ⊢
        rw [show k * sz + j = (k + 1) * sz + (j - c.length) by rw [Nat.succ_mul]; omega]
        exact hv
  have := key css 0 fun i cs hi => by
    obtain ⟨cs', e, hc⟩ := h i (by rw [← hl]; exact (List.getElem?_eq_some_iff.1 hi).1)
    rw [hi] at e; cases e
    rw [Nat.zero_add]; exact hc
  rw [Nat.zero_mul, add_zero] at this
  exact this
theorem trod_rep : ∀ n, Rep1 P w enc base spare held (argT P n) := by
  intro n
  induction n with
  | zero => intro ty t fuel cs x h; cases h
  | succ n ih =>
    intro ty t fuel cs x h hx
    cases ty with
    | int k =>
      obtain ⟨z, rfl, _, hz⟩ := DataW.trod_int (isInt_spec h) hx
      exact ⟨z, rfl, hz, fun _ _ => trivial⟩
    | bool =>
      simp only [argT] at h
      split at h
      · rename_i e
        obtain ⟨b, rfl, _⟩ := DataW.trod_bool e hx
        exact ⟨b, rfl, trivial, fun _ _ => trivial⟩
      · cases h
    | str =>
      simp only [argT] at h
      split at h
      · rename_i e
        obtain ⟨b, rfl, _, hs⟩ := DataW.trod_string e hx
        exact ⟨b, rfl, hs, fun _ _ => trivial⟩
      · cases h
    | raw => cases h
    | arr k m =>
      simp only [argT] at h
      split at h
      · rename_i m' e he
        simp only [Bool.and_eq_true] at h
        obtain ⟨h1, h2, h3, h4⟩ := h
        have h1 := Nat.eq_of_beq_eq_true h1
        have h3 := Nat.eq_of_beq_eq_true h3
        have h4 := Nat.eq_of_beq_eq_true h4
        subst h1
        obtain ⟨xs, q, rfl, _, hl, hxl, hel⟩ := DataW.trod_array he hx
        rw [h4] at hl
        rw [h3] at hel
        have each : ∀ v ∈ cs, ∃ z, v = Value.int k z ∧ (Lit.int k z).wf = true := by
          intro v hv
          obtain ⟨i, hi⟩ := List.getElem?_of_mem hv
          have hlt : i < m' := by rw [← hl]; exact (List.getElem?_eq_some_iff.1 hi).1
          have := hel i hlt
          rw [Nat.mul_one, List.getElem?_eq_getElem (by omega)] at this
          obtain ⟨z, e1, _, e3⟩ := DataW.trod_int (isInt_spec h2) this
          have hv2 : ((cs.drop i).take 1)[0]? = some v := by rw [List.getElem?_take_of_lt (by omega), List.getElem?_drop]; exact hi
          rw [e1] at hv2
          cases hv2
          exact ⟨z, rfl, e3⟩
        obtain ⟨zs, rfl⟩ := ints_of fun u hu => let ⟨z, e, _⟩ := each u hu; ⟨z, e⟩
        rw [length_ints] at hl
        refine ⟨⟨zs, hl⟩, rfl, fun z hz => ?_, fun _ _ => trivial⟩
        obtain ⟨z', e, hz'⟩ := each (.int k z) (List.mem_map.2 ⟨z, hz, rfl⟩)
        cases e; exact hz'
      · cases h
    | pr a b =>
      simp only [argT] at h
      split at h
      · rename_i fs he
        simp only [Bool.and_eq_true] at h
        obtain ⟨xs, q, rfl, _, hl, hxl, hel⟩ := DataW.trod_struct he hx
        have hsz := Nat.eq_of_beq_eq_true h.2
        rw [hsz] at hl
        have := parts_rep ih (m := q) (cs := cs) h.1 (fun f hf => by
          obtain ⟨i, hi⟩ := List.getElem?_of_mem hf
          have hi' : fs[i]? = some f := by rw [← Array.getElem?_toList]; exact hi
          have hlt : i < fs.size := (Array.getElem?_eq_some_iff.1 hi').1
          have := hel i f hi'
          rw [List.getElem?_eq_getElem (by omega)] at this
          exact ⟨_, this⟩) (by omega)
        rw [List.drop_zero, List.take_of_length_le (by omega)] at this
        obtain ⟨y, r1, r2⟩ := this
        exact ⟨y, r1, r2, fun _ _ => trivial⟩
      · cases h
    | sl ty =>
      simp only [argT] at h
      split at h
      · rename_i e he
        simp only [Bool.and_eq_true] at h
        obtain ⟨h1, h2, h3, h4⟩ := h
        have h2 := Nat.eq_of_beq_eq_true h2
        have h3 := Nat.le_of_ble_eq_true h3
        have h4 := Nat.le_of_ble_eq_true h4
        rcases DataW.trod_slice he hx with ⟨rfl, _⟩ | ⟨a, len, cap, elems, rest, q, _, rfl, rfl, _, hlc, hcm, hel, hget, _, _⟩
        · exact ⟨[], ⟨none, 0, rfl, Nat.le_refl _, fun _ => rfl, fun ad e => (by cases e), [], trivial, Row.nil _ _⟩, fun j y hj => (by cases hj), fun M _ => ⟨Nat.zero_le _, fun j y hj => by cases hj⟩⟩
        · rw [h2] at hget
          have hwt : ∀ n, (n = (elems.length + rest.length) * P.bytesOf e ∨ ∃ d ∈ elems.map (·.1), n ∈ d.weights P e) → n ∈ (DataW.slice (elems.map (·.1)) (rest.map (·.1))).weights P t := by
            intro n hn
            have hw : (DataW.slice (elems.map (·.1)) (rest.map (·.1))).weights P t = (elems.length + rest.length) * P.bytesOf e :: (DataW.weightsAll P e (elems.map (·.1)) ++ DataW.weightsAll P e (rest.map (·.1))) := by
              simp only [DataW.weights, he, List.length_map]
            rw [hw]
            rcases hn with rfl | ⟨d, hd, hn⟩
            · exact List.mem_cons_self ..
            · refine List.mem_cons_of_mem _ (List.mem_append_left _ ?_)
              have key : ∀ l : List (DataW H), d ∈ l → n ∈ DataW.weightsAll P e l := by
                intro l
                induction l with
                | nil => intro h; cases h
                | cons c l ih =>
                  intro h
                  simp only [DataW.weightsAll]
                  rcases List.mem_cons.1 h with rfl | h
                  · exact List.mem_append_left _ hn
                  · exact List.mem_append_right _ (ih h)
              exact key _ hd
          have each : ∀ i, i < len → ∃ cs y, w.cells? base (a.add (i * ty.size)) ty.size = some cs ∧ RepD no w ty cs y ∧ Fits ty y ∧ ∀ M, (∀ n ∈ (DataW.slice (elems.map (·.1)) (rest.map (·.1))).weights P t, n ≤ M) → Bnd M ty y := by
            intro i hi
            have := hget i hi
            rw [List.getElem?_eq_getElem (by omega)] at this
            obtain ⟨cs, k1, k2⟩ := Option.bind_eq_some_iff.1 this
            obtain ⟨y, r1, r2, r3⟩ := ih ty e _ cs _ h1 k2
            exact ⟨cs, y, k1, r1, r2, fun M hM => r3 M fun n hn => hM n (hwt n (.inr ⟨_, List.mem_map.2 ⟨_, List.getElem_mem (by omega), rfl⟩, hn⟩))⟩
          have build : ∀ m, m ≤ len → ∃ css ys, css.length = m ∧ ys.length = m ∧ All2 (fun cs y => RepD no w ty cs y) css ys ∧ (∀ (j : Nat) y, ys[j]? = some y → Fits ty y ∧ ∀ M, (∀ n ∈ (DataW.slice (elems.map (·.1)) (rest.map (·.1))).weights P t, n ≤ M) → Bnd M ty y) ∧ ∀ i, i < m → ∃ cs, css[i]? = some cs ∧ w.cells? base (a.add (i * ty.size)) ty.size = some cs := by
            intro m
            induction m with
            | zero => intro _; exact ⟨[], [], rfl, rfl, trivial, fun j y h => (by cases h), fun i hi => (by omega)⟩
            | succ m ihm =>
              intro hm
              obtain ⟨css, ys, g1, g2, g3, g4, g5⟩ := ihm (by omega)
              obtain ⟨cs, y, k1, k2, k3⟩ := each m (by omega)
              refine ⟨css ++ [cs], ys ++ [y], by simp [g1], by simp [g2], g3.app ⟨k2, trivial⟩, fun j z hj => ?_, fun i hi => ?_⟩
              · by_cases hjl : j < ys.length
                · rw [List.getElem?_append_left hjl] at hj; exact g4 j z hj
                · have hjl2 := (List.getElem?_eq_some_iff.1 hj).1
                  rw [List.length_append, List.length_singleton] at hjl2
                  rw [show j = ys.length by omega] at hj
                  simp at hj; subst hj; exact k3
              · by_cases hil : i < m
                · obtain ⟨c, q1, q2⟩ := g5 i hil
                  exact ⟨c, by rw [List.getElem?_append_left (by omega)]; exact q1, q2⟩
                · rw [show i = m by omega]
                  exact ⟨cs, by rw [← g1]; simp, k1⟩
          obtain ⟨css, ys, g1, g2, g3, g4, g5⟩ := build len (Nat.le_refl _)
          refine ⟨ys, ⟨some a, cap, by rw [g2], by omega, fun e => (by cases e), fun ad e hp => ?_, css, g3, cells_row g1 g5⟩, fun j y hj => (g4 j y hj).1, fun M hM => ⟨?_, fun j y hj => (g4 j y hj).2 M hM⟩⟩
          · cases e
            rw [g2] at hp
            obtain ⟨cs, _, k1, _⟩ := each 0 hp
            have := World.cells?_block k1 (by omega)
            rw [add_block] at this
            exact ⟨this, fun h => h⟩
          · have h6 := hM _ (hwt _ (.inl rfl))
            have h7 : elems.length * 1 ≤ (elems.length + rest.length) * P.bytesOf e := Nat.mul_le_mul (Nat.le_add_right _ _) h4
            show ys.length ≤ M
            omega
      · cases h
end
end Go.Sat
end
section
namespace Go.Sat
open Go Go.RowKit Go.WideShapes

section
variable {H : Type} {enc : TypeId × Value → H} {P : Program} {w : World} {b0 base : Nat} {spare : Nat → Bool} {held : Bool} {T : TypeId} {v : Value} {d : DataW H} {ps : List MemPlace}
theorem arg_sl {n : Nat} {ty : Ty} {e : TypeId} (hu : P.underlying T = some (.slice e)) (hT : argT P n (.sl ty) T = true) (hval : Value.okWide P w .any b0 T v) (h : DataW.Trod enc P w base spare held T v d ps) :
    ∃ y : (Ty.sl ty).den, RepD no w (.sl ty) [v] y ∧ Fits (.sl ty) y ∧ ∀ M, (∀ n ∈ d.weights P T, n ≤ M) → Bnd M (.sl ty) y := by
  obtain ⟨a, len, cap, rfl⟩ := okWide_slice hu hval
  obtain ⟨fuel, hf⟩ := h
  exact trod_rep n (.sl ty) T fuel [.slice a len cap] _ hT hf
theorem arg_int {n : Nat} {k : IntKind} (hu : P.underlying T = some (.int k)) (hT : argT P n (.int k) T = true) (hval : Value.okWide P w .any b0 T v) (h : DataW.Trod enc P w base spare held T v d ps) :
    ∃ y : (Ty.int k).den, RepD no w (.int k) [v] y ∧ Fits (.int k) y ∧ ∀ M, (∀ n ∈ d.weights P T, n ≤ M) → Bnd M (.int k) y := by
  obtain ⟨z, rfl⟩ := okWide_int hu hval
  obtain ⟨fuel, hf⟩ := h
  exact trod_rep n (.int k) T fuel [.int k z] _ hT hf
theorem arg_str {n : Nat} (hu : P.underlying T = some .string) (hT : argT P n .str T = true) (hval : Value.okWide P w .any b0 T v) (h : DataW.Trod enc P w base spare held T v d ps) :
    ∃ y : Ty.str.den, RepD no w .str [v] y ∧ Fits .str y ∧ ∀ M, (∀ n ∈ d.weights P T, n ≤ M) → Bnd M .str y := by
  obtain ⟨z, rfl⟩ := okWide_string hu hval
  obtain ⟨fuel, hf⟩ := h
  exact trod_rep n .str T fuel [.string z] _ hT hf
theorem arg_struct {n : Nat} {ty : Ty} {fs : Array Field} (hu : P.underlying T = some (.struct fs)) (hT : argT P n ty T = true) (hval : Value.okWide P w .any b0 T v) (h : DataW.Trod enc P w base spare held T v d ps) :
    ∃ y : ty.den, (∃ cs : List Value, v = .agg cs.toArray ∧ RepD no w ty cs y) ∧ Fits ty y ∧ ∀ M, (∀ n ∈ d.weights P T, n ≤ M) → Bnd M ty y := by
  simp only [Value.okWide, hu] at hval
  obtain ⟨cs, rfl, _, _⟩ := hval
  obtain ⟨fuel, hf⟩ := h
  obtain ⟨y, h1, h2⟩ := trod_rep n ty T fuel cs.toList _ hT hf
  exact ⟨y, ⟨cs.toList, by simp, h1⟩, h2⟩
theorem weigh_head {ts : List TypeId} {ds : List (DataW H)} {M : Nat} (h : (DataW.weightsEach P (T :: ts) (d :: ds)).all (· ≤ M) = true) : (∀ n ∈ d.weights P T, n ≤ M) ∧ (DataW.weightsEach P ts ds).all (· ≤ M) = true := by
  simp only [DataW.weightsEach, List.all_append, Bool.and_eq_true] at h
  exact ⟨fun n hn => of_decide_eq_true (List.all_eq_true.1 h.1 n hn), h.2⟩
end
theorem Fits.bytes {x : List Int} (h : Fits (.sl (.int .u8)) x) : ∀ z ∈ x, 0 ≤ z ∧ z < 256 := by
  intro z hz
  obtain ⟨j, hj⟩ := List.getElem?_of_mem hz
  have := bounds_u8 (h j z hj)
  omega
/-- a law of the set: what it calls writes nothing that was there -/
theorem law_below {P : Program} {f : FuncId} {args : Array Value} {w : World} (h : Ret P f args w (fun v w' => v = .bool true ∧ Grow w w')) : Calls P f args w fun e w' => e = .returned (.bool true) ∧ Below w.heap.size w w' :=
  Calls.mono h fun _ _ ⟨_, e, e2, g⟩ => ⟨by rw [e, e2], g.os, g.tape, g.output, g.size, fun k hk => g.same k hk fun hf => hf⟩
end Go.Sat
end
section
namespace Go.Sat
open Go

def le4 (n : Int) : List Int := [IntKind.u8.wrap n, IntKind.u8.wrap (sShr .u32 n 8), IntKind.u8.wrap (sShr .u32 n 16), IntKind.u8.wrap (sShr .u32 n 24)]
def gPut (b : List Int) : List Int := b ++ le4 (crcSum b)
theorem gPut_length (b : List Int) : (gPut b).length = b.length + 4 := by simp [gPut, le4]
def gOk (b : List Int) : Prop := 4 ≤ b.length ∧ gPut (b.take (b.length - 4)) = b
instance (b : List Int) : Decidable (gOk b) := by unfold gOk; infer_instance
def gErr (b : List Int) : Int := if gOk b then 0 else 4
def gBody (b : List Int) : List Int := if gOk b then b.take (b.length - 4) else []
theorem gBody_le (b : List Int) : (gBody b).length ≤ b.length := by unfold gBody; split <;> simp <;> omega
theorem gErr_no {b : List Int} (h : ¬ gOk b) : gErr b = 4 := by rw [gErr, if_neg h]
theorem gBody_no {b : List Int} (h : ¬ gOk b) : gBody b = [] := by rw [gBody, if_neg h]
theorem gErr_ok {b : List Int} (h : gOk b) : gErr b = 0 := by rw [gErr, if_pos h]
theorem gBody_ok {b : List Int} (h : gOk b) : gBody b = b.take (b.length - 4) := by rw [gBody, if_pos h]
theorem xor8 (a b : Int) : 0 ≤ bXor .u8 a b ∧ bXor .u8 a b < 256 := by
  unfold bXor
  have h : ∀ n : Int, IntKind.u8.wrap n = n % 256 := fun n => by simp [IntKind.wrap, IntKind.bits, IntKind.signed]
  rw [h]; omega
/-- bit by bit -/
def refBits (c : Int) : Nat → Int → Int
  | 0, n => n
  | k + 1, n => refBit c k (refBits c k n)
def refByte (n c : Int) : Int := refBits c 8 n
def refRun (n : Int) (b : List Int) : Int := b.foldl refByte n
def refSum (b : List Int) : Int := not32 (refRun 4294967295 b)
theorem refRun_take {n : Int} {b : List Int} {i : Nat} (h : i < b.length) : refRun n (b.take (i + 1)) = refByte (refRun n (b.take i)) (b.getD i 0) := by
  unfold refRun
  rw [List.take_succ_eq_append_getElem h, List.foldl_append]
  simp [List.getD_eq_getElem?_getD, h]
end Go.Sat
end
section
namespace Go.Sat
open Go

def Bytes (b : List Int) : Prop := ∀ x ∈ b, 0 ≤ x ∧ x < 256
theorem Bytes.take {b : List Int} (h : Bytes b) (n : Nat) : Bytes (b.take n) := fun x hx => h x (List.mem_of_mem_take hx)
theorem Bytes.drop {b : List Int} (h : Bytes b) (n : Nat) : Bytes (b.drop n) := fun x hx => h x (List.mem_of_mem_drop hx)
theorem Bytes.app {a b : List Int} (h : Bytes a) (k : Bytes b) : Bytes (a ++ b) := fun x hx => (List.mem_append.1 hx).elim (h x) (k x)
theorem Bytes.rd {b : List Int} (h : Bytes b) {i : Nat} (hi : i < b.length) : 0 ≤ rd b i ∧ rd b i < 256 := by
  have : Go.Sat.rd b i = b[i] := by simp [Go.Sat.rd, List.getD_eq_getElem?_getD, hi]
  rw [this]; exact h _ (List.getElem_mem hi)

theorem u8w (n : Int) : IntKind.u8.wrap n = n % 256 := by simp [IntKind.wrap, IntKind.bits, IntKind.signed]
theorem u32w (n : Int) : IntKind.u32.wrap n = n % 4294967296 := by simp [IntKind.wrap, IntKind.bits, IntKind.signed]
theorem wrapN (x : BitVec 32) : IntKind.u32.wrap (x.toNat : Int) = x.toNat := by rw [u32w]; have := x.isLt; omega
theorem ofN (x : BitVec 32) : BitVec.ofInt 32 (x.toNat : Int) = x := by simp
theorem xorN (x y : BitVec 32) : bXor .u32 x.toNat y.toNat = ((x ^^^ y).toNat : Int) := by
  unfold bXor
  show IntKind.u32.wrap ((BitVec.ofInt 32 (x.toNat : Int) ^^^ BitVec.ofInt 32 (y.toNat : Int)).toNat : Int) = _
  rw [ofN, ofN, wrapN]
theorem shrN (x : BitVec 32) (k : Nat) (h : k ≤ 32) : sShr .u32 x.toNat (k : Int) = ((x >>> k).toNat : Int) := by
  unfold sShr
  show (x.toNat : Int).fdiv (2 ^ min k 32) = _
  rw [Nat.min_eq_left h, BitVec.toNat_ushiftRight, Nat.shiftRight_eq_div_pow]
  rw [show ((2 : Int) ^ k) = ((2 ^ k : Nat) : Int) by simp]
  exact Int.ofNat_fdiv _ _ |>.symm
def stp (x : BitVec 32) : BitVec 32 := if x.getLsbD 0 then (x >>> 1) ^^^ 3988292384#32 else x >>> 1
theorem polyN : (3988292384 : Int) = ((3988292384#32).toNat : Int) := rfl
theorem lsbN (x : BitVec 32) : x.getLsbD 0 = decide (x.toNat % 2 = 1) := by
  rw [BitVec.getLsbD, Nat.testBit_zero]
theorem crcBitN (x : BitVec 32) : crcBit x.toNat = ((stp x).toNat : Int) := by
  unfold crcBit stp
  have h1 : bAnd .u32 (x.toNat : Int) 1 = ((x.toNat % 2 : Nat) : Int) := by
    unfold bAnd
    show IntKind.u32.wrap ((BitVec.ofInt 32 (x.toNat : Int) &&& BitVec.ofInt 32 (((1#32).toNat : Nat) : Int)).toNat : Int) = _
    rw [ofN, ofN, wrapN, BitVec.toNat_and]
    show ((x.toNat &&& 1 : Nat) : Int) = _
    rw [Nat.and_one_is_mod]
  rw [h1, lsbN, show (sShr .u32 (x.toNat : Int) 1) = ((x >>> 1).toNat : Int) from shrN x 1 (by decide), polyN, xorN]
  by_cases h : x.toNat % 2 = 1
  · simp [h]
  · have : x.toNat % 2 = 0 := by omega
    simp [this]
def stps : Nat → BitVec 32 → BitVec 32
  | 0, x => x
  | k + 1, x => stps k (stp x)
theorem stps_succ (k : Nat) (x : BitVec 32) : stps (k + 1) x = stp (stps k x) := by
  induction k generalizing x with
  | zero => rfl
  | succ k ih => rw [stps, ih]; rfl
theorem crcBitsN (k : Nat) (x : BitVec 32) : crcBits k x.toNat = ((stps k x).toNat : Int) := by
  induction k generalizing x with
  | zero => rfl
  | succ k ih => rw [crcBits, crcBitN, ih]; rfl
theorem stp_xor (x y : BitVec 32) : stp (x ^^^ y) = stp x ^^^ stp y := by
  unfold stp
  rw [BitVec.getLsbD_xor, BitVec.ushiftRight_xor_distrib]
  cases x.getLsbD 0 <;> cases y.getLsbD 0 <;> simp
  · ac_rfl
  · ac_rfl
  · rw [show x >>> 1 ^^^ 3988292384#32 ^^^ (y >>> 1 ^^^ 3988292384#32) = (x >>> 1 ^^^ y >>> 1) ^^^ (3988292384#32 ^^^ 3988292384#32) by ac_rfl]; simp
theorem stps_xor (k : Nat) (x y : BitVec 32) : stps k (x ^^^ y) = stps k x ^^^ stps k y := by
  induction k generalizing x y with
  | zero => rfl
  | succ k ih => rw [stps, stp_xor, ih]; rfl
theorem stp_shl (u : BitVec 32) (k : Nat) (hu : u.toNat < 2 ^ 24) (hk : k < 8) : stp (u <<< (k + 1)) = u <<< k := by
  have h0 : (u <<< (k + 1)).getLsbD 0 = false := by simp
  unfold stp
  rw [h0]
  apply BitVec.eq_of_toNat_eq
  have hb : 2 ^ (k + 1) ≤ 2 ^ 8 := Nat.pow_le_pow_right (by decide) (by omega)
  have h1 : u.toNat * 2 ^ (k + 1) < 2 ^ 32 := by
    calc u.toNat * 2 ^ (k + 1) ≤ u.toNat * 2 ^ 8 := Nat.mul_le_mul_left _ hb
      _ < 2 ^ 32 := by omega
  have h2 : u.toNat * 2 ^ (k + 1) = (u.toNat * 2 ^ k) * 2 := by rw [Nat.pow_succ]; ac_rfl
  simp only [Bool.false_eq_true, if_false, BitVec.toNat_ushiftRight, BitVec.toNat_shiftLeft, Nat.shiftLeft_eq, Nat.shiftRight_eq_div_pow, Nat.pow_one]
  rw [Nat.mod_eq_of_lt h1, h2, Nat.mul_div_cancel _ (by decide), Nat.mod_eq_of_lt (by omega)]
theorem stps_shl (u : BitVec 32) (k : Nat) (hu : u.toNat < 2 ^ 24) (hk : k ≤ 8) : stps k (u <<< k) = u := by
  induction k with
  | zero => simp [stps]
  | succ k ih => rw [stps, stp_shl u k hu (by omega)]; exact ih (by omega)
theorem part_eq (z : BitVec 32) : z = (z &&& 255#32) ^^^ ((z >>> 8) <<< 8) := by
  apply BitVec.eq_of_getLsbD_eq
  intro i hi
  simp only [BitVec.getLsbD_xor, BitVec.getLsbD_and, BitVec.getLsbD_shiftLeft, BitVec.getLsbD_ushiftRight]
  by_cases h : i < 8
  · have : (255#32).getLsbD i = true := by
      have : ∀ i : Fin 8, (255#32).getLsbD i.val = true := by decide
      exact this ⟨i, h⟩
    simp [h, this]
  · have : (255#32).getLsbD i = false := by
      have : ∀ i : Fin 32, ¬ i.val < 8 → (255#32).getLsbD i.val = false := by decide
      exact this ⟨i, hi⟩ h
    rw [this]; simp [h, hi, show 8 + (i - 8) = i by omega]
theorem stps8 (z : BitVec 32) : stps 8 z = stps 8 (z &&& 255#32) ^^^ (z >>> 8) := by
  conv => lhs; rw [part_eq z]
  rw [stps_xor, stps_shl _ 8 (by rw [BitVec.toNat_ushiftRight, Nat.shiftRight_eq_div_pow]; have := z.isLt; omega) (by decide)]
theorem crcByteN (x y : BitVec 32) (hy : y.toNat < 256) : crcByte x.toNat y.toNat = ((stps 8 (x ^^^ y)).toNat : Int) := by
  have hy8 : y >>> 8 = 0#32 := by
    apply BitVec.eq_of_toNat_eq
    rw [BitVec.toNat_ushiftRight, Nat.shiftRight_eq_div_pow]
    show _ = 0
    omega
  have hi : bXor .u8 (IntKind.u8.wrap x.toNat) (y.toNat : Int) = (((x ^^^ y) &&& 255#32).toNat : Int) := by
    unfold bXor
    rw [u8w, u8w]
    show (((BitVec.ofInt 8 ((x.toNat : Int) % 256) ^^^ BitVec.ofInt 8 (y.toNat : Int)).toNat : Int) % 256) = _
    rw [show ((x.toNat : Int) % 256) = ((x.toNat % 256 : Nat) : Int) by omega, BitVec.ofInt_natCast, BitVec.ofInt_natCast, BitVec.toNat_xor, BitVec.toNat_ofNat, BitVec.toNat_ofNat, BitVec.toNat_and, BitVec.toNat_xor]
    show (((x.toNat % 256 % 256 ^^^ y.toNat % 256 : Nat) : Int) % 256) = (((x.toNat ^^^ y.toNat) &&& 255 : Nat) : Int)
    rw [Nat.mod_mod, show (255 : Nat) = 2 ^ 8 - 1 from rfl, Nat.and_two_pow_sub_one_eq_mod, show (256 : Nat) = 2 ^ 8 from rfl, ← Nat.xor_mod_two_pow]
    omega
  have hlt : ((x ^^^ y) &&& 255#32).toNat < 256 := by
    rw [BitVec.toNat_and]
    exact Nat.lt_of_le_of_lt Nat.and_le_right (by decide)
  unfold crcByte
  rw [hi, show sShr .u32 (x.toNat : Int) 8 = ((x >>> 8).toNat : Int) from shrN x 8 (by decide)]
  have ht : rd crcTab (((x ^^^ y) &&& 255#32).toNat : Int) = ((stps 8 ((x ^^^ y) &&& 255#32)).toNat : Int) := by
    unfold rd crcTab
    rw [Int.toNat_natCast, List.getD_eq_getElem?_getD, List.getElem?_map, List.getElem?_range hlt]
    show crcCell _ = _
    unfold crcCell
    rw [wrapN, crcBitsN]
  rw [ht, xorN, stps8 (x ^^^ y), BitVec.ushiftRight_xor_distrib, hy8, BitVec.xor_zero]
theorem refBitN (x y : BitVec 32) (k : Nat) (hy : y.toNat < 256) (hk : k < 8) : refBit y.toNat k x.toNat = ((stp (x ^^^ (y >>> k)) ^^^ (y >>> (k + 1))).toNat : Int) := by
  have hs : sShr .u8 (y.toNat : Int) (k : Int) = ((y >>> k).toNat : Int) := by
    unfold sShr
    show (y.toNat : Int).fdiv (2 ^ min k 8) = _
    rw [Nat.min_eq_left (by omega), BitVec.toNat_ushiftRight, Nat.shiftRight_eq_div_pow, show ((2 : Int) ^ k) = ((2 ^ k : Nat) : Int) by simp]
    exact Int.ofNat_fdiv _ _ |>.symm
  unfold refBit
  rw [hs, wrapN, show sShr .u32 (x.toNat : Int) 1 = ((x >>> 1).toNat : Int) from shrN x 1 (by decide), polyN, xorN]
  have e1 : (x.toNat : Int).tmod 2 = ((x.toNat % 2 : Nat) : Int) := rfl
  have e2 : ((y >>> k).toNat : Int).tmod 2 = (((y >>> k).toNat % 2 : Nat) : Int) := rfl
  rw [e1, e2]
  have hsh : y >>> (k + 1) = (y >>> k) >>> 1 := by rw [← BitVec.shiftRight_add]
  have hz : ∀ a : BitVec 32, (x ^^^ y >>> k) >>> 1 ^^^ a ^^^ y >>> (k + 1) = x >>> 1 ^^^ a := fun a => by
    rw [hsh, BitVec.ushiftRight_xor_distrib, show x >>> 1 ^^^ (y >>> k) >>> 1 ^^^ a ^^^ (y >>> k) >>> 1 = x >>> 1 ^^^ a ^^^ ((y >>> k) >>> 1 ^^^ (y >>> k) >>> 1) by ac_rfl]; simp
  have hz0 : (x ^^^ y >>> k) >>> 1 ^^^ y >>> (k + 1) = x >>> 1 := by
    have := hz 0#32
    simpa using this
  unfold stp
  rw [BitVec.getLsbD_xor, lsbN, lsbN]
  by_cases h1 : x.toNat % 2 = 1 <;> by_cases h2 : (y >>> k).toNat % 2 = 1
  · rw [if_neg (by omega), if_neg (by rw [decide_eq_true h1, decide_eq_true h2]; decide), hz0]
  · rw [if_pos (by omega), if_pos (by rw [decide_eq_true h1, decide_eq_false h2]; decide), hz]
  · rw [if_pos (by omega), if_pos (by rw [decide_eq_false h1, decide_eq_true h2]; decide), hz]
  · rw [if_neg (by omega), if_neg (by rw [decide_eq_false h1, decide_eq_false h2]; decide), hz0]
theorem refBitsN (x y : BitVec 32) (hy : y.toNat < 256) (k : Nat) (hk : k ≤ 8) : refBits y.toNat k x.toNat = ((stps k (x ^^^ y) ^^^ (y >>> k)).toNat : Int) := by
  induction k with
  | zero =>
    rw [refBits, stps, BitVec.ushiftRight_zero, show x ^^^ y ^^^ y = x ^^^ (y ^^^ y) by ac_rfl]; simp
  | succ k ih =>
    rw [refBits, ih (by omega), refBitN _ _ _ hy (by omega), stps_succ, show stps k (x ^^^ y) ^^^ y >>> k ^^^ y >>> k = stps k (x ^^^ y) ^^^ (y >>> k ^^^ y >>> k) by ac_rfl]
    simp
theorem refByteN (x y : BitVec 32) (hy : y.toNat < 256) : refByte x.toNat y.toNat = ((stps 8 (x ^^^ y)).toNat : Int) := by
  have hy8 : y >>> 8 = 0#32 := by
    apply BitVec.eq_of_toNat_eq
    rw [BitVec.toNat_ushiftRight, Nat.shiftRight_eq_div_pow]
    show _ = 0
    omega
  rw [refByte, refBitsN x y hy 8 (Nat.le_refl _), hy8, BitVec.xor_zero]
/-- the state behind some bytes, as bits -/
def runN : BitVec 32 → List Int → BitVec 32
  | x, [] => x
  | x, c :: b => runN (stps 8 (x ^^^ BitVec.ofInt 32 c)) b
theorem byteN {c : Int} (h : 0 ≤ c ∧ c < 256) : c = ((BitVec.ofInt 32 c).toNat : Int) ∧ (BitVec.ofInt 32 c).toNat < 256 := by
  obtain ⟨m, rfl⟩ := Int.eq_ofNat_of_zero_le h.1
  have : (BitVec.ofInt 32 (m : Int)).toNat = m := by
    rw [BitVec.ofInt_natCast, BitVec.toNat_ofNat, Nat.mod_eq_of_lt (by omega)]
  rw [this]
  exact ⟨rfl, by omega⟩
theorem crcRunN (x : BitVec 32) (b : List Int) (h : Bytes b) : crcRun x.toNat b = ((runN x b).toNat : Int) := by
  induction b generalizing x with
  | nil => rfl
  | cons c b ih =>
    obtain ⟨e, hl⟩ := byteN (h c (List.mem_cons_self ..))
    show crcRun (crcByte x.toNat c) b = _
    rw [e, crcByteN _ _ hl, ih _ fun x hx => h x (List.mem_cons_of_mem _ hx), ← e]; rfl
theorem refRunN (x : BitVec 32) (b : List Int) (h : Bytes b) : refRun x.toNat b = ((runN x b).toNat : Int) := by
  induction b generalizing x with
  | nil => rfl
  | cons c b ih =>
    obtain ⟨e, hl⟩ := byteN (h c (List.mem_cons_self ..))
    show refRun (refByte x.toNat c) b = _
    rw [e, refByteN _ _ hl, ih _ fun x hx => h x (List.mem_cons_of_mem _ hx), ← e]; rfl
theorem onesN : (4294967295 : Int) = ((4294967295#32).toNat : Int) := rfl
theorem refSum_eq {b : List Int} (h : Bytes b) : refSum b = crcSum b := by
  have e : not32 0 = ((4294967295#32).toNat : Int) := by
    rw [not32, onesN, show (0 : Int) = ((0#32).toNat : Int) from rfl, xorN]; rfl
  rw [refSum, crcSum, e, crcRunN _ b h, onesN, refRunN _ b h]
theorem crcSum_range {b : List Int} (h : Bytes b) : 0 ≤ crcSum b ∧ crcSum b < 4294967296 := by
  have e : not32 0 = ((4294967295#32).toNat : Int) := by
    rw [not32, onesN, show (0 : Int) = ((0#32).toNat : Int) from rfl, xorN]; rfl
  rw [crcSum, e, crcRunN _ b h, not32, onesN, xorN]
  have := (4294967295#32 ^^^ runN 4294967295#32 b).isLt
  omega
end Go.Sat
end
section
namespace Go.Sat
open Go

theorem bytesOf_data (xs : List Int) (r : ByteArray) : (xs.foldl (fun r n => r.push (UInt8.ofNat n.toNat)) r).data.toList = r.data.toList ++ xs.map (fun n => UInt8.ofNat n.toNat) := by
  induction xs generalizing r with
  | nil => simp
  | cons x xs ih => rw [List.foldl_cons, ih]; simp [ByteArray.push]
theorem bytesOf_inj {xs ys : List Int} (hx : Bytes xs) (hy : Bytes ys) (h : bytesOf xs = bytesOf ys) : xs = ys := by
  have e : xs.map (fun n => UInt8.ofNat n.toNat) = ys.map (fun n => UInt8.ofNat n.toNat) := by
    have h1 := bytesOf_data xs ByteArray.empty
    have h2 := bytesOf_data ys ByteArray.empty
    unfold bytesOf at h
    rw [h] at h1
    have := h1.symm.trans h2
    simpa using this
  clear h
  induction xs generalizing ys with
  | nil => cases ys with
    | nil => rfl
    | cons y ys => cases e
  | cons x xs ih => cases ys with
    | nil => cases e
    | cons y ys =>
      rw [List.map_cons, List.map_cons] at e
      injection e with e1 e2
      have a := hx x (List.mem_cons_self ..)
      have b := hy y (List.mem_cons_self ..)
      have : (UInt8.ofNat x.toNat).toNat = (UInt8.ofNat y.toNat).toNat := by rw [e1]
      rw [UInt8.toNat_ofNat', UInt8.toNat_ofNat'] at this
      rw [ih (fun z hz => hx z (List.mem_cons_of_mem _ hz)) (fun z hz => hy z (List.mem_cons_of_mem _ hz)) e2, show x = y by omega]
theorem ba_beq (a b : ByteArray) : (a == b) = (a.data == b.data) := by cases a; cases b; rfl
theorem bytesOf_beq {xs ys : List Int} (hx : Bytes xs) (hy : Bytes ys) : (bytesOf xs == bytesOf ys) = decide (xs = ys) := by
  by_cases h : xs = ys
  · subst h; rw [ba_beq]; simp
  · rw [decide_eq_false h, ba_beq]
    exact beq_eq_false_iff_ne.2 fun e => h (bytesOf_inj hx hy (by cases hq : bytesOf xs; cases hr : bytesOf ys; rw [hq, hr] at e; cases e; rfl))
theorem bytesOf_same {xs ys : List Int} (hx : Bytes xs) (hy : Bytes ys) : ((bytesOf xs).toList == (bytesOf ys).toList) = decide (xs = ys) := by rw [← beq_toListBytes, bytesOf_beq hx hy]
theorem le4_bytes (n : Int) : Bytes (le4 n) := by
  intro x hx
  simp only [le4, List.mem_cons, List.not_mem_nil, or_false] at hx
  rcases hx with rfl | rfl | rfl | rfl <;> (rw [u8w]; omega)
theorem gPut_bytes {b : List Int} (h : Bytes b) : Bytes (gPut b) := h.app (le4_bytes _)
end Go.Sat
end
section
namespace Go.Sat
open Go

def sizeP (n : Int) : Int := if n < 1 ∨ 1024 < n then 0 else n + 26
theorem sizeP_in {n : Int} (h1 : 1 ≤ n) (h2 : n ≤ 1024) : sizeP n = n + 26 := by rw [sizeP, if_neg (by omega)]
def hd4 (n : Nat) : List Int := [((n / 256 : Nat) : Int), ((n % 256 : Nat) : Int), 255 - ((n / 256 : Nat) : Int), 255 - ((n % 256 : Nat) : Int)]
def headL (n : Nat) : List Int := hd4 n ++ [IntKind.u8.wrap (crcSum (hd4 n)), IntKind.u8.wrap (sShr .u32 (crcSum (hd4 n)) 8)]
theorem headL_length (n : Nat) : (headL n).length = 6 := rfl
theorem hd4_bytes {n : Nat} (h : n < 65536) : Bytes (hd4 n) := by
  intro x hx
  simp only [hd4, List.mem_cons, List.not_mem_nil, or_false] at hx
  rcases hx with rfl | rfl | rfl | rfl <;> omega
theorem headL_bytes {n : Nat} (h : n < 65536) : Bytes (headL n) := (hd4_bytes h).app fun x hx => by
  simp only [List.mem_cons, List.not_mem_nil, or_false] at hx
  rcases hx with rfl | rfl <;> (rw [u8w]; omega)
theorem hd_h {n : Nat} (h : n < 65536) : IntKind.u8.wrap (sShr .i64 (n : Int) 8) = ((n / 256 : Nat) : Int) := by
  have : sShr .i64 (n : Int) 8 = ((n / 256 : Nat) : Int) := by
    unfold sShr
    show (n : Int).fdiv (2 ^ 8) = _
    exact (Int.ofNat_fdiv n 256).symm
  rw [this, u8w]; omega
theorem hd_l (n : Nat) : IntKind.u8.wrap (n : Int) = ((n % 256 : Nat) : Int) := by rw [u8w]; omega
theorem not8 {n : Nat} (h : n < 256) : bXor .u8 255 (n : Int) = 255 - (n : Int) := by
  have : ∀ m : Fin 256, bXor .u8 255 (m.val : Int) = 255 - (m.val : Int) := by decide +kernel
  exact this ⟨n, h⟩
theorem hd_h' {n : Nat} (h : n < 65536) : IntKind.u8.wrap ((n : Int).tdiv 256) = ((n / 256 : Nat) : Int) := by
  rw [show (n : Int).tdiv 256 = ((n / 256 : Nat) : Int) from rfl, u8w]; omega
theorem hd_l' (n : Nat) : IntKind.u8.wrap ((n : Int).tmod 256) = ((n % 256 : Nat) : Int) := by
  rw [show (n : Int).tmod 256 = ((n % 256 : Nat) : Int) from rfl, u8w]; omega
theorem hd_nh {n : Nat} (h : n < 65536) : IntKind.u8.wrap ((255 : Int) - (n : Int).tdiv 256) = 255 - ((n / 256 : Nat) : Int) := by
  rw [show (n : Int).tdiv 256 = ((n / 256 : Nat) : Int) from rfl, u8w]; omega
theorem hd_nl (n : Nat) : IntKind.u8.wrap ((255 : Int) - (n : Int).tmod 256) = 255 - ((n % 256 : Nat) : Int) := by
  rw [show (n : Int).tmod 256 = ((n % 256 : Nat) : Int) from rfl, u8w]; omega

def recB (b : List Int) : List Int := headL b.length ++ gPut (shaID b ++ b)
theorem recB_length (b : List Int) : (recB b).length = b.length + 26 := by rw [recB, List.length_append, headL_length, gPut_length, List.length_append, shaID_length]; omega
def okLen (b : List Int) : Prop := 1 ≤ b.length ∧ b.length ≤ 1024
instance (b : List Int) : Decidable (okLen b) := by unfold okLen; infer_instance
def recOf (b : List Int) : List Int := if okLen b then recB b else []
def idOf (b : List Int) : List Int := if okLen b then shaID b else zer 16
def errOf (b : List Int) : Int := if okLen b then 0 else if b.length = 0 then 2 else 3
theorem idOf_length (b : List Int) : (idOf b).length = 16 := by unfold idOf; split; exact shaID_length b; rfl
theorem recOf_ok {b : List Int} (h : okLen b) : recOf b = recB b := by rw [recOf, if_pos h]
theorem recOf_no {b : List Int} (h : ¬ okLen b) : recOf b = [] := by rw [recOf, if_neg h]
theorem idOf_ok {b : List Int} (h : okLen b) : idOf b = shaID b := by rw [idOf, if_pos h]
theorem idOf_no {b : List Int} (h : ¬ okLen b) : idOf b = zer 16 := by rw [idOf, if_neg h]
theorem errOf_ok {b : List Int} (h : okLen b) : errOf b = 0 := by rw [errOf, if_pos h]
theorem errOf_none {b : List Int} (h : b.length = 0) : errOf b = 2 := by rw [errOf, if_neg (by unfold okLen; omega), if_pos h]
theorem errOf_long {b : List Int} (h : 1024 < b.length) : errOf b = 3 := by rw [errOf, if_neg (by unfold okLen; omega), if_neg (by omega)]
theorem recOf_length_le (b : List Int) : (recOf b).length ≤ 1050 := by
  unfold recOf
  split
  · rename_i h; rw [recB_length]; unfold okLen at h; omega
  · simp
theorem shaFin_bytes (s : List Int) : Bytes (shaFin s) := by
  intro x hx
  unfold shaFin at hx
  obtain ⟨w, _, hw⟩ := List.mem_flatMap.1 hx
  simp only [beOut, List.mem_cons, List.not_mem_nil, or_false] at hw
  rcases hw with rfl | rfl | rfl | rfl <;> (rw [u8w]; omega)
theorem sha_bytes (m : List Int) : Bytes (sha m) := shaFin_bytes _
theorem shaID_bytes (m : List Int) : Bytes (shaID m) := (sha_bytes m).take _
theorem recB_bytes {b : List Int} (h : Bytes b) (hl : b.length < 65536) : Bytes (recB b) := (headL_bytes hl).app (gPut_bytes ((shaID_bytes b).app h))
theorem recOf_bytes {b : List Int} (h : Bytes b) : Bytes (recOf b) := by
  unfold recOf
  split
  · rename_i hk; exact recB_bytes h (by unfold okLen at hk; omega)
  · intro x hx; cases hx

/-! ### what is lent -/
def lentF (n : Nat) (j : Nat) : Int := 160 + (((n + j) % 90 : Nat) : Int)
def lentL (b : List Int) : List Int := b ++ (List.range 3).map (lentF b.length)
theorem lentL_length (b : List Int) : (lentL b).length = b.length + 3 := by simp [lentL]
theorem lentL_bytes {b : List Int} (h : Bytes b) : Bytes (lentL b) := h.app fun x hx => by
  obtain ⟨j, _, rfl⟩ := List.mem_map.1 hx
  unfold lentF; omega
theorem lent_start (b : List Int) : over (zer (b.length + 3)) 0 b = b ++ built (lentF b.length) 3 0 := by
  unfold over
  rw [built_zero, List.take_zero, List.nil_append, Nat.zero_add]
  congr 1
  simp [zer]
theorem lent_set {b : List Int} {k : Nat} {v : Int} (h : k < 3) (hv : v = lentF b.length k) : (b ++ built (lentF b.length) 3 k).set (b.length + k) v = b ++ built (lentF b.length) 3 (k + 1) := by
  rw [List.set_append_right _ _ (by omega), Nat.add_sub_cancel_left, built_set h hv]
theorem lent_end (b : List Int) : b ++ built (lentF b.length) 3 3 = lentL b := by rw [built_all]; rfl
theorem lent_val (n k : Nat) : IntKind.u8.wrap ((160 : Int) + ((n + k : Nat) : Int).tmod 90) = lentF n k := by
  rw [show ((n + k : Nat) : Int).tmod 90 = (((n + k) % 90 : Nat) : Int) from rfl, u8w]; unfold lentF; omega
/-- a list of bytes as cells -/
theorem as_ints {cs : List Value} (h : ∀ u ∈ cs, likeZ B0 u) : ∃ ys, cs = ints .u8 ys := by
  induction cs with
  | nil => exact ⟨[], rfl⟩
  | cons u cs ih =>
    obtain ⟨ys, e⟩ := ih fun v hv => h v (List.mem_cons_of_mem _ hv)
    obtain ⟨x, e2⟩ := h u (List.mem_cons_self ..)
    exact ⟨x :: ys, by rw [e, e2]; rfl⟩
end Go.Sat
end
section
namespace Go.Sat
open Go

theorem or_word {x y : Int} (hx : 0 ≤ x ∧ x < 256) (hy : 0 ≤ y ∧ y < 256) : bOr .i64 (sShl .i64 x 8) y = 256 * x + y := by
  obtain ⟨m, rfl⟩ := Int.eq_ofNat_of_zero_le hx.1
  obtain ⟨n, rfl⟩ := Int.eq_ofNat_of_zero_le hy.1
  have w64 : ∀ k : Nat, k < 9223372036854775808 → IntKind.i64.wrap (k : Int) = k := fun k hk => wrap_fits ⟨by omega, by omega⟩
  have e1 : sShl .i64 (m : Int) 8 = ((m * 256 : Nat) : Int) := by
    unfold sShl
    show IntKind.i64.wrap ((m : Int) * 2 ^ 8) = _
    rw [show ((m : Int) * 2 ^ 8) = ((m * 256 : Nat) : Int) by omega, w64 _ (by omega)]
  rw [e1]
  unfold bOr
  show IntKind.i64.wrap (((BitVec.ofInt 64 ((m * 256 : Nat) : Int) ||| BitVec.ofInt 64 (n : Int)).toNat : Nat) : Int) = _
  rw [BitVec.ofInt_natCast, BitVec.ofInt_natCast, BitVec.toNat_or, BitVec.toNat_ofNat, BitVec.toNat_ofNat, Nat.mod_eq_of_lt (by omega), Nat.mod_eq_of_lt (by omega)]
  have h := Nat.shiftLeft_add_eq_or_of_lt (b := n) (i := 8) (by omega) m
  rw [Nat.shiftLeft_eq] at h
  rw [show m * 256 = m * 2 ^ 8 from rfl, ← h, w64 _ (by omega)]
  omega
def hdN (b : List Int) (p : Nat) : Nat := (256 * rd b (p : Int) + rd b ((p : Int) + 1)).toNat
theorem hdN_eq {b : List Int} (hB : Bytes b) {p : Nat} (h : p + 1 < b.length) : 256 * rd b (p : Int) + rd b ((p : Int) + 1) = (hdN b p : Int) ∧ hdN b p < 65536 := by
  have h1 := hB.rd (i := p) (by omega)
  have h2 := hB.rd (i := p + 1) h
  rw [show ((p + 1 : Nat) : Int) = (p : Int) + 1 by omega] at h2
  unfold hdN
  omega
theorem sizeP_pos (n : Int) : (sizeP n > 0) = (1 ≤ n ∧ n ≤ 1024) := by
  unfold sizeP; split <;> (apply propext; constructor <;> intro h <;> omega)
theorem sizeP_zero (n : Int) : (sizeP n = 0) = ¬ (1 ≤ n ∧ n ≤ 1024) := by
  unfold sizeP; split <;> (apply propext; constructor <;> intro h <;> omega)
/-- is there a head at a place? -/
def isHead (b : List Int) (p : Int) : Prop := 0 ≤ p ∧ p + 6 ≤ b.length ∧ 1 ≤ hdN b p.toNat ∧ hdN b p.toNat ≤ 1024 ∧ (b.drop p.toNat).take 6 = headL (hdN b p.toNat)
instance (b : List Int) (p : Int) : Decidable (isHead b p) := by unfold isHead; infer_instance
def saysN (b : List Int) (p : Int) : Int := if 0 ≤ p ∧ p + 6 ≤ b.length then hdN b p.toNat else 0
def headN (b : List Int) (p : Int) : Int := if isHead b p then hdN b p.toNat else 0
theorem saysN_head {b : List Int} {p : Int} (h : isHead b p) : saysN b p = hdN b p.toNat := by rw [saysN, if_pos ⟨h.1, h.2.1⟩]
theorem headN_head {b : List Int} {p : Int} (h : isHead b p) : headN b p = hdN b p.toNat := by rw [headN, if_pos h]

/-! ### bodies -/
def okB (X : List Int) : Prop := gOk X ∧ shaID ((gBody X).drop 16) = (gBody X).take 16
instance (X : List Int) : Decidable (okB X) := by unfold okB; infer_instance
def idB (X : List Int) : List Int := if gOk X then (gBody X).take 16 else zer 16
def dataB (X : List Int) : List Int := (gBody X).drop 16
theorem gBody_length {X : List Int} (h : gOk X) : (gBody X).length = X.length - 4 := by rw [gBody_ok h, List.length_take]; have := h.1; omega
theorem idB_length {X : List Int} (h : 20 ≤ X.length) : (idB X).length = 16 := by
  unfold idB
  split
  · rename_i hk; rw [List.length_take, gBody_length hk]; omega
  · rfl
theorem gBody_bytes {X : List Int} (h : Bytes X) : Bytes (gBody X) := by
  unfold gBody
  split
  · exact h.take _
  · intro x hx; cases hx
def bodyS (b : List Int) (p n : Nat) : List Int := (b.drop p).take (n + 20)
theorem bodyS_length {b : List Int} {p n : Nat} (h : p + n + 20 ≤ b.length) : (bodyS b p n).length = n + 20 := by simp [bodyS]; omega
theorem bodyS_bytes {b : List Int} (h : Bytes b) (p n : Nat) : Bytes (bodyS b p n) := (h.drop _).take _

def unint : Value → Int
  | .int _ x => x
  | _ => 0
theorem unint_ints (k : IntKind) (xs : List Int) : (ints k xs).map unint = xs := by
  induction xs with
  | nil => rfl
  | cons x xs ih => exact congrArg (x :: ·) ih
theorem ints_inj {k : IntKind} {xs ys : List Int} (h : ints k xs = ints k ys) : xs = ys := by
  have := congrArg (List.map unint) h
  rwa [unint_ints, unint_ints] at this
theorem gOk_of {X : List Int} (h : gErr X = 0) : gOk X := by
  unfold gErr at h; split at h
  · assumption
  · exact absurd h (by decide)
theorem gOk_not {X : List Int} (h : gErr X ≠ 0) : ¬ gOk X := fun hk => h (gErr_ok hk)

/-! ### lists of what is found -/
structure Hel where
  id : List Int
  pos : Int
  len : Int
deriving DecidableEq
def helC (h : Hel) : List Value := ints .u8 h.id ++ [.int .i64 h.pos, .int .i64 h.len]
def helsC (l : List Hel) : List Value := l.flatMap helC
theorem helsC_app (l m : List Hel) : helsC (l ++ m) = helsC l ++ helsC m := by simp [helsC]
theorem helC_length {h : Hel} (hi : h.id.length = 16) : (helC h).length = 18 := by simp [helC, hi]
theorem helsC_length {l : List Hel} (hl : ∀ h ∈ l, h.id.length = 16) : (helsC l).length = l.length * 18 := by
  induction l with
  | nil => rfl
  | cons h l ih =>
    have h1 := ih fun x hx => hl x (List.mem_cons_of_mem _ hx)
    have h2 := helC_length (hl h (List.mem_cons_self ..))
    simp only [helsC, List.flatMap_cons, List.length_append, List.length_cons] at h1 ⊢
    rw [h1, h2]; omega
theorem helC_one (h : Hel) : (helC h).all one' = true := by simp [helC, one_ints, one']

def scanF (b : List Int) (p : Nat) (out : List Hel) (bad : Nat) : List Hel × Nat × Nat × Int :=
  if _h0 : b.length ≤ p then (out, p, bad, 0)
  else if b.length - p < 6 then (out, p, bad, 1)
  else if ¬ isHead b p then (out, p, bad, 2)
  else if b.length - p < hdN b p + 26 then (out, p, bad, 1)
  else if okB (bodyS b (p + 6) (hdN b p)) then scanF b (p + (hdN b p + 26)) (out ++ [⟨idB (bodyS b (p + 6) (hdN b p)), p, hdN b p⟩]) bad
  else scanF b (p + (hdN b p + 26)) out (bad + 1)
termination_by b.length - p
decreasing_by all_goals omega
def scanB (b : List Int) : List Hel × Nat × Nat × Int := scanF b 0 [] 0
/-- how the rest is, where no record is -/
def restAt (b : List Int) (p : Nat) : Int := if b.length ≤ p then 0 else if b.length - p < 6 then 1 else if ¬ isHead b p then 2 else 1
theorem scanF_end {b : List Int} {p : Nat} {out : List Hel} {bad : Nat} (h : b.length ≤ p ∨ b.length - p < 6 ∨ ¬ isHead b p ∨ b.length - p < hdN b p + 26) : scanF b p out bad = (out, p, bad, restAt b p) := by
  unfold scanF restAt
  by_cases h0 : b.length ≤ p
  · rw [dif_pos h0, if_pos h0]
  · rw [dif_neg h0, if_neg h0]
    by_cases h1 : b.length - p < 6
    · rw [if_pos h1, if_pos h1]
    · rw [if_neg h1, if_neg h1]
      by_cases h2 : isHead b p
      · rw [if_neg (show ¬ ¬ isHead b p from fun hn => hn h2), if_neg (show ¬ ¬ isHead b p from fun hn => hn h2), if_pos (h.elim (fun h => absurd h h0) fun h => h.elim (fun h => absurd h h1) fun h => h.elim (fun h => absurd h2 h) id)]
      · rw [if_pos h2, if_pos h2]
theorem scanF_good {b : List Int} {p : Nat} {out : List Hel} {bad : Nat} (h : isHead b p) (hl : hdN b p + 26 ≤ b.length - p) (hk : okB (bodyS b (p + 6) (hdN b p))) :
    scanF b p out bad = scanF b (p + (hdN b p + 26)) (out ++ [⟨idB (bodyS b (p + 6) (hdN b p)), p, hdN b p⟩]) bad := by
  conv => lhs; unfold scanF
  rw [dif_neg (by omega), if_neg (by omega), if_neg (show ¬ ¬ isHead b p from fun hn => hn h), if_neg (by omega), if_pos hk]
theorem scanF_bad {b : List Int} {p : Nat} {out : List Hel} {bad : Nat} (h : isHead b p) (hl : hdN b p + 26 ≤ b.length - p) (hk : ¬ okB (bodyS b (p + 6) (hdN b p))) :
    scanF b p out bad = scanF b (p + (hdN b p + 26)) out (bad + 1) := by
  conv => lhs; unfold scanF
  rw [dif_neg (by omega), if_neg (by omega), if_neg (show ¬ ¬ isHead b p from fun hn => hn h), if_neg (by omega), if_neg hk]

/-! ### what is got -/
def getOk (b : List Int) (h : Hel) : Prop := isHead b h.pos ∧ (hdN b h.pos.toNat : Int) = h.len ∧ h.pos + h.len + 26 ≤ b.length
instance (b : List Int) (h : Hel) : Decidable (getOk b h) := by unfold getOk; infer_instance
def getX (b : List Int) (h : Hel) : List Int := bodyS b (h.pos.toNat + 6) (hdN b h.pos.toNat)
def getErr (b : List Int) (h : Hel) : Int := if getOk b h then (if okB (getX b h) ∧ idB (getX b h) = h.id then 0 else 11) else 6
def getB (b : List Int) (h : Hel) : List Int := if getErr b h = 0 then dataB (getX b h) else []

theorem helC_pos {h : Hel} (hi : h.id.length = 16) : (helC h)[16]? = some (.int .i64 h.pos) := by
  unfold helC; rw [List.getElem?_append_right (by simp [hi])]; simp [hi]
theorem helC_len {h : Hel} (hi : h.id.length = 16) : (helC h)[17]? = some (.int .i64 h.len) := by
  unfold helC; rw [List.getElem?_append_right (by simp [hi])]; simp [hi]
theorem helC_id {h : Hel} (hi : h.id.length = 16) : ((helC h).drop 0).take 16 = ints .u8 h.id := by
  unfold helC; rw [List.drop_zero, List.take_left' (by simp [hi])]
theorem dataB_bytes {X : List Int} (h : Bytes X) : Bytes (dataB X) := (gBody_bytes h).drop _
theorem getB_bytes {b : List Int} (h : Bytes b) (x : Hel) : Bytes (getB b x) := by
  unfold getB; split
  · exact dataB_bytes (bodyS_bytes h _ _)
  · intro y hy; cases hy
theorem getErr_miss {b : List Int} {h : Hel} (hn : ¬ getOk b h) : getErr b h = 6 := by rw [getErr, if_neg hn]
theorem getErr_dam {b : List Int} {h : Hel} (hk : getOk b h) (hn : ¬ (okB (getX b h) ∧ idB (getX b h) = h.id)) : getErr b h = 11 := by rw [getErr, if_pos hk, if_neg hn]
theorem getErr_ok {b : List Int} {h : Hel} (hk : getOk b h) (hn : okB (getX b h) ∧ idB (getX b h) = h.id) : getErr b h = 0 := by rw [getErr, if_pos hk, if_pos hn]
theorem getB_no {b : List Int} {h : Hel} (hn : getErr b h ≠ 0) : getB b h = [] := by rw [getB, if_neg hn]
theorem getB_ok {b : List Int} {h : Hel} (hn : getErr b h = 0) : getB b h = dataB (getX b h) := by rw [getB, if_pos hn]

theorem rest_whole {b : List Int} {p : Nat} (h : b.length ≤ p) : restAt b p = 0 := by rw [restAt, if_pos h]
theorem rest_short {b : List Int} {p : Nat} (h0 : ¬ b.length ≤ p) (h : b.length - p < 6) : restAt b p = 1 := by rw [restAt, if_neg h0, if_pos h]
theorem rest_bad {b : List Int} {p : Nat} (h0 : ¬ b.length ≤ p) (h1 : ¬ b.length - p < 6) (h : ¬ isHead b p) : restAt b p = 2 := by rw [restAt, if_neg h0, if_neg h1, if_pos h]
theorem rest_torn {b : List Int} {p : Nat} (h0 : ¬ b.length ≤ p) (h1 : ¬ b.length - p < 6) (h : isHead b p) : restAt b p = 1 := by rw [restAt, if_neg h0, if_neg h1, if_neg (fun hn => hn h)]
end Go.Sat
end
section
namespace Go.Sat
open Go

theorem gOk_gPut (x : List Int) : gOk (gPut x) := by
  unfold gOk
  rw [gPut_length, Nat.add_sub_cancel]
  refine ⟨by omega, ?_⟩
  rw [show (gPut x).take x.length = x by unfold gPut; rw [List.take_left' rfl]]
theorem gBody_gPut (x : List Int) : gBody (gPut x) = x := by
  rw [gBody_ok (gOk_gPut x), gPut_length, Nat.add_sub_cancel]
  unfold gPut; rw [List.take_left' rfl]
theorem take16 (b : List Int) : (shaID b ++ b).take 16 = shaID b := List.take_left' (shaID_length b)
theorem drop16 (b : List Int) : (shaID b ++ b).drop 16 = b := List.drop_left' (shaID_length b)
theorem okB_rec (b : List Int) : okB (gPut (shaID b ++ b)) := by
  refine ⟨gOk_gPut _, ?_⟩
  rw [gBody_gPut, take16, drop16]
theorem idB_rec (b : List Int) : idB (gPut (shaID b ++ b)) = shaID b := by rw [idB, if_pos (gOk_gPut _), gBody_gPut, take16]
theorem dataB_rec (b : List Int) : dataB (gPut (shaID b ++ b)) = b := by rw [dataB, gBody_gPut, drop16]

section
variable {pre b t : List Int}
theorem rec_drop : (pre ++ (recB b ++ t)).drop pre.length = recB b ++ t := List.drop_left' rfl
theorem rec_head : ((pre ++ (recB b ++ t)).drop pre.length).take 6 = headL b.length := by
  rw [rec_drop, List.take_append_of_le_length (by rw [recB_length]; omega)]
  unfold recB; exact List.take_left' (headL_length _)
theorem rd_app {i : Nat} {k : Nat} (h : i < 4) (hk : k = pre.length + i) : rd (pre ++ (recB b ++ t)) k = rd (hd4 b.length) i := by
  subst hk
  unfold rd
  rw [Int.toNat_natCast, Int.toNat_natCast, List.getD_eq_getElem?_getD, List.getD_eq_getElem?_getD, List.getElem?_append_right (by omega), show pre.length + i - pre.length = i by omega,
    List.getElem?_append_left (by rw [recB_length]; omega)]
  unfold recB headL
  rw [List.append_assoc, List.getElem?_append_left (by show i < 4; exact h)]
theorem rec_hdN : hdN (pre ++ (recB b ++ t)) pre.length = b.length := by
  have h0 := rd_app (pre := pre) (b := b) (t := t) (i := 0) (k := pre.length) (by decide) (by omega)
  have h1 := rd_app (pre := pre) (b := b) (t := t) (i := 1) (k := pre.length + 1) (by decide) rfl
  unfold hdN
  rw [show ((pre.length : Int) + 1) = ((pre.length + 1 : Nat) : Int) by omega, h0, h1]
  show ((256 : Int) * ((b.length / 256 : Nat) : Int) + ((b.length % 256 : Nat) : Int)).toNat = _
  omega
theorem rec_isHead (hb : okLen b) : isHead (pre ++ (recB b ++ t)) pre.length := by
  unfold isHead okLen at *
  have hl : (pre ++ (recB b ++ t)).length = pre.length + (b.length + 26 + t.length) := by simp [recB_length]
  refine ⟨by omega, by rw [hl]; omega, ?_, ?_, ?_⟩
  · rw [Int.toNat_natCast, rec_hdN]; omega
  · rw [Int.toNat_natCast, rec_hdN]; omega
  · rw [Int.toNat_natCast, rec_hdN, rec_head]
theorem rec_bodyS : bodyS (pre ++ (recB b ++ t)) (pre.length + 6) b.length = gPut (shaID b ++ b) := by
  unfold bodyS
  rw [← List.drop_drop, rec_drop]
  unfold recB
  rw [List.append_assoc, List.drop_left' (headL_length _), List.take_left' (by rw [gPut_length, List.length_append, shaID_length]; omega)]
end
def encL (l : List (List Int)) : List Int := l.flatMap recB
def helsL : Nat → List (List Int) → List Hel
  | _, [] => []
  | p, b :: l => ⟨shaID b, p, b.length⟩ :: helsL (p + (b.length + 26)) l
theorem scan_recs (l : List (List Int)) (hl : ∀ b ∈ l, okLen b) (pre t : List Int) (out : List Hel) (bad : Nat) :
    scanF (pre ++ (encL l ++ t)) pre.length out bad = scanF (pre ++ (encL l ++ t)) (pre ++ encL l).length (out ++ helsL pre.length l) bad := by
  induction l generalizing pre out with
  | nil => simp [encL, helsL]
  | cons b l ih =>
    have hb := hl b (List.mem_cons_self ..)
    have e1 : pre ++ (encL (b :: l) ++ t) = pre ++ (recB b ++ (encL l ++ t)) := by simp [encL]
    have e2 : pre ++ (encL (b :: l) ++ t) = (pre ++ recB b) ++ (encL l ++ t) := by simp [encL]
    have hh := rec_isHead (pre := pre) (t := encL l ++ t) hb
    have hn := rec_hdN (pre := pre) (b := b) (t := encL l ++ t)
    have hX := rec_bodyS (pre := pre) (b := b) (t := encL l ++ t)
    rw [← e1] at hh hn hX
    have hlen : (pre ++ (encL (b :: l) ++ t)).length = pre.length + (b.length + 26) + (encL l ++ t).length := by rw [e1]; simp [recB_length]; omega
    rw [scanF_good hh (by rw [hn, hlen]; omega) (by rw [hn, hX]; exact okB_rec b), hn, hX, idB_rec]
    have := ih (fun x hx => hl x (List.mem_cons_of_mem _ hx)) (pre ++ recB b) (out ++ [⟨shaID b, pre.length, b.length⟩])
    rw [← e2] at this
    rw [show pre.length + (b.length + 26) = (pre ++ recB b).length by rw [List.length_append, recB_length], this]
    simp [encL, helsL, recB_length]
end Go.Sat
namespace Go.Sat
open Go
theorem scan_whole (l : List (List Int)) (hl : ∀ b ∈ l, okLen b) : scanB (encL l) = (helsL 0 l, (encL l).length, 0, 0) := by
  have h := scan_recs l hl [] [] [] 0
  simp only [List.nil_append, List.append_nil, List.length_nil] at h
  unfold scanB
  rw [h, scanF_end (.inl (Nat.le_refl _)), rest_whole (Nat.le_refl _)]
end Go.Sat
namespace Go.Sat
open Go
/-- a record cut short -/
theorem torn_end {pre c : List Int} {k : Nat} (hc : okLen c) (hk : k < (recB c).length) {u : List Int} (hu : u = pre ++ (recB c).take k) (out : List Hel) (bad : Nat) :
    scanF u pre.length out bad = (out, pre.length, bad, if k = 0 then 0 else 1) := by
  have hul : u.length = pre.length + k := by rw [hu, List.length_append, List.length_take]; omega
  rw [recB_length] at hk
  by_cases h0 : k = 0
  · rw [if_pos h0, scanF_end (.inl (by omega)), rest_whole (by omega)]
  · rw [if_neg h0]
    by_cases h6 : k < 6
    · rw [scanF_end (.inr (.inl (by omega))), rest_short (by omega) (by omega)]
    · -- the head is there
      have hcut : u = pre ++ (headL c.length ++ ((gPut (shaID c ++ c)).take (k - 6))) := by
        rw [hu]; congr 1; unfold recB
        rw [List.take_append, List.take_of_length_le (by rw [headL_length]; omega), headL_length]
      have hrd : ∀ i, i < 4 → rd u ((pre.length + i : Nat) : Int) = rd (hd4 c.length) i := by
        intro i hi
        rw [hcut]; unfold rd
        rw [Int.toNat_natCast, Int.toNat_natCast, List.getD_eq_getElem?_getD, List.getD_eq_getElem?_getD, List.getElem?_append_right (by omega), show pre.length + i - pre.length = i by omega,
          List.getElem?_append_left (by rw [headL_length]; omega)]
        unfold headL
        rw [List.getElem?_append_left (by show i < 4; exact hi)]
      have hn : hdN u pre.length = c.length := by
        have a := hrd 0 (by decide)
        have b := hrd 1 (by decide)
        unfold hdN
        rw [show ((pre.length : Int) + 1) = ((pre.length + 1 : Nat) : Int) by omega, b]
        rw [Nat.add_zero] at a
        rw [a]
        show ((256 : Int) * ((c.length / 256 : Nat) : Int) + ((c.length % 256 : Nat) : Int)).toNat = _
        omega
      have hh : isHead u pre.length := by
        unfold isHead okLen at *
        refine ⟨by omega, by omega, ?_, ?_, ?_⟩
        · rw [Int.toNat_natCast, hn]; omega
        · rw [Int.toNat_natCast, hn]; omega
        · rw [Int.toNat_natCast, hn, hcut, List.drop_left' rfl, List.take_left' (headL_length _)]
      rw [scanF_end (.inr (.inr (.inr (by rw [hn]; omega)))), rest_torn (by omega) (by omega) hh]
end Go.Sat
namespace Go.Sat
open Go
theorem get_rec {pre b t : List Int} (hb : okLen b) {h : Hel} (hh : h = ⟨shaID b, pre.length, b.length⟩) : getErr (pre ++ (recB b ++ t)) h = 0 ∧ getB (pre ++ (recB b ++ t)) h = b := by
  subst hh
  have hl : (pre ++ (recB b ++ t)).length = pre.length + (b.length + 26 + t.length) := by simp [recB_length]
  have hX : getX (pre ++ (recB b ++ t)) ⟨shaID b, pre.length, b.length⟩ = gPut (shaID b ++ b) := by
    unfold getX; simp only [Int.toNat_natCast]; rw [rec_hdN, rec_bodyS]
  have hok : getOk (pre ++ (recB b ++ t)) ⟨shaID b, pre.length, b.length⟩ := by
    unfold getOk
    exact ⟨rec_isHead hb, by simp only [Int.toNat_natCast]; rw [rec_hdN], by simp only; rw [hl]; omega⟩
  have he := getErr_ok hok (by rw [hX]; exact ⟨okB_rec b, idB_rec b⟩)
  exact ⟨he, by rw [getB_ok he, hX, dataB_rec]⟩
end Go.Sat
end
section
namespace Go.Sat
open Go Go.Proofs
set_option maxRecDepth 100000
noncomputable def F145 : St [] → Option (St [.agg 0 (.ty (.arr .u32 256))]) := fun x => (loopS (fun s0 => bif decide (s0.fst < 256) then (loopS (fun s1 => bif decide (s1.snd < 8) then (bif decide (bAnd IntKind.u32 s1.fst 1 = 1) then some (bXor IntKind.u32 (sShr IntKind.u32 s1.fst 1) 3988292384) else some (sShr IntKind.u32 s1.fst 1)).bind fun y2 => bif f64 (s1.snd + 1) then some (Sum.inl (y2, s1.snd + 1)) else none else some (Sum.inr s1.fst)) (IntKind.u32.wrap s0.fst, 0)).bind fun y1 => bif inB s0.fst 256 then bif decide (Int.toNat s0.fst < 256) then bif f64 (s0.fst + 1) then some (Sum.inl (s0.fst + 1, Arr.set s0.snd (Int.toNat s0.fst) y1)) else none else none else none else some (Sum.inr s0.snd)) (0, Arr.zero 256)).bind fun y0 => some y0
noncomputable def F130 : St [.slot 0 (.ty (.int .u32)), .slot 1 (.ty (.sl (.int .u8)))] → Option (St [.slot 0 (.ty (.int .u32))]) := fun x => (F145 ()).bind fun y0 => (loopS (fun s1 => bif decide (s1.snd < zi (List.length x.snd)) then bif inB s1.snd (List.length x.snd) then x.snd[Int.toNat s1.snd]?.bind fun y2 => bif inB (bXor IntKind.u8 (IntKind.u8.wrap s1.fst) y2) 256 then y0.l[(bXor IntKind.u8 (IntKind.u8.wrap s1.fst) y2).toNat]?.bind fun y3 => bif f64 (s1.snd + 1) then some (Sum.inl (bXor IntKind.u32 y3 (sShr IntKind.u32 s1.fst 8), s1.snd + 1)) else none else none else none else some (Sum.inr s1.fst)) (bXor IntKind.u32 4294967295 x.fst, 0)).bind fun y1 => some (bXor IntKind.u32 4294967295 y1)
noncomputable def F105 : St [.slot 0 (.ty (.sl (.int .u8)))] → Option (St [.slot 0 (.ty (.int .u32))]) := fun x => (F130 (0, x)).bind fun y0 => some y0
noncomputable def F63 : St [.slot 0 (.ty (.int .i64))] → Option (St [.agg 0 (.ty (.arr .u8 6))]) := fun x => (F105 [IntKind.u8.wrap (sShr IntKind.i64 x 8), IntKind.u8.wrap x, bXor IntKind.u8 255 (IntKind.u8.wrap (sShr IntKind.i64 x 8)), bXor IntKind.u8 255 (IntKind.u8.wrap x)]).bind fun y0 => some (((((((Arr.zero 6).set 0 (IntKind.u8.wrap (sShr IntKind.i64 x 8))).set 1 (IntKind.u8.wrap x)).set 2 (bXor IntKind.u8 255 (IntKind.u8.wrap (sShr IntKind.i64 x 8)))).set 3 (bXor IntKind.u8 255 (IntKind.u8.wrap x))).set 4 (IntKind.u8.wrap y0)).set 5 (IntKind.u8.wrap (sShr IntKind.u32 y0 8)))
noncomputable def F133 : St [] → Option (St [.agg 0 (.ty (.arr .u32 8))]) := fun x => some (((((((((Arr.zero 8).set 0 1779033703).set 1 3144134277).set 2 1013904242).set 3 2773480762).set 4 1359893119).set 5 2600822924).set 6 528734635).set 7 1541459225)
noncomputable def F110 : St [] → Option (St [.slot 0 (.ptr 167 (.pr (.ty .bool) (.pr (.ty (.arr .u32 8)) (.pr (.ty (.arr .u8 64)) (.ty (.int .i64))))))]) := fun x => (F133 ()).bind fun y0 => some (true, y0, Arr.zero 64, 0)
noncomputable def F152 : St [.slot 0 (.ty (.int .u32)), .slot 1 (.ty (.int .i64))] → Option (St [.slot 0 (.ty (.int .u32))]) := fun x => bif decide (0 ≤ bAnd IntKind.u64 (IntKind.u64.wrap x.snd) 31) then bif decide (0 ≤ IntKind.u64.wrap (32 - bAnd IntKind.u64 (IntKind.u64.wrap x.snd) 31)) then some (bOr IntKind.u32 (sShl IntKind.u32 x.fst (bAnd IntKind.u64 (IntKind.u64.wrap x.snd) 31)) (sShr IntKind.u32 x.fst (IntKind.u64.wrap (32 - bAnd IntKind.u64 (IntKind.u64.wrap x.snd) 31)))) else none else none
noncomputable def F151 : St [.slot 0 (.ty (.int .u32)), .slot 1 (.ty (.int .i64))] → Option (St [.slot 0 (.ty (.int .u32))]) := fun x => bif f64 (0 - x.snd) then (F152 (x.fst, 0 - x.snd)).bind fun y0 => some y0 else none
noncomputable def F149 : St [.slot 0 (.ty (.sl (.int .u8)))] → Option (St [.agg 0 (.ty (.arr .u32 64))]) := fun x => (loopS (fun s0 => bif decide (s0.fst < 16) then bif f64 (4 * s0.fst) then bif inB (4 * s0.fst) x.length then x[(4 * s0.fst).toNat]?.bind fun y1 => bif f64 (4 * s0.fst) then bif f64 (4 * s0.fst + 1) then bif inB (4 * s0.fst + 1) x.length then x[(4 * s0.fst + 1).toNat]?.bind fun y2 => bif f64 (4 * s0.fst) then bif f64 (4 * s0.fst + 2) then bif inB (4 * s0.fst + 2) x.length then x[(4 * s0.fst + 2).toNat]?.bind fun y3 => bif f64 (4 * s0.fst) then bif f64 (4 * s0.fst + 3) then bif inB (4 * s0.fst + 3) x.length then x[(4 * s0.fst + 3).toNat]?.bind fun y4 => bif inB s0.fst 64 then bif decide (Int.toNat s0.fst < 64) then bif f64 (s0.fst + 1) then some (Sum.inl (s0.fst + 1, Arr.set s0.snd (Int.toNat s0.fst) (bOr IntKind.u32 (bOr IntKind.u32 (bOr IntKind.u32 (sShl IntKind.u32 (IntKind.u32.wrap y1) 24) (sShl IntKind.u32 (IntKind.u32.wrap y2) 16)) (sShl IntKind.u32 (IntKind.u32.wrap y3) 8)) (IntKind.u32.wrap y4)))) else none else none else none else none else none else none else none else none else none else none else none else none else none else none else some (Sum.inr s0.snd)) (0, Arr.zero 64)).bind fun y0 => (loopS (fun s1 => bif decide (s1.fst < 64) then bif f64 (s1.fst - 15) then bif inB (s1.fst - 15) 64 then s1.snd.l[(s1.fst - 15).toNat]?.bind fun y2 => bif f64 (s1.fst - 2) then bif inB (s1.fst - 2) 64 then s1.snd.l[(s1.fst - 2).toNat]?.bind fun y3 => (F151 (y2, 7)).bind fun y4 => (F151 (y2, 18)).bind fun y5 => (F151 (y3, 17)).bind fun y6 => (F151 (y3, 19)).bind fun y7 => bif f64 (s1.fst - 16) then bif inB (s1.fst - 16) 64 then s1.snd.l[(s1.fst - 16).toNat]?.bind fun y8 => bif f64 (s1.fst - 7) then bif inB (s1.fst - 7) 64 then s1.snd.l[(s1.fst - 7).toNat]?.bind fun y9 => bif inB s1.fst 64 then bif decide (Int.toNat s1.fst < 64) then bif f64 (s1.fst + 1) then some (Sum.inl (s1.fst + 1, Arr.set s1.snd (Int.toNat s1.fst) (IntKind.u32.wrap (IntKind.u32.wrap (IntKind.u32.wrap (y8 + bXor IntKind.u32 (bXor IntKind.u32 y4 y5) (sShr IntKind.u32 y2 3)) + y9) + bXor IntKind.u32 (bXor IntKind.u32 y6 y7) (sShr IntKind.u32 y3 10))))) else none else none else none else none else none else none else none else none else none else none else none else some (Sum.inr s1.snd)) (16, y0)).bind fun y1 => some y1
noncomputable def F150 : St [] → Option (St [.agg 0 (.ty (.arr .u32 64))]) := fun x => some (((((((((((((((((((((((((((((((((((((((((((((((((((((((((((((((((Arr.zero 64).set 0 1116352408).set 1 1899447441).set 2 3049323471).set 3 3921009573).set 4 961987163).set 5 1508970993).set 6 2453635748).set 7 2870763221).set 8 3624381080).set 9 310598401).set 10 607225278).set 11 1426881987).set 12 1925078388).set 13 2162078206).set 14 2614888103).set 15 3248222580).set 16 3835390401).set 17 4022224774).set 18 264347078).set 19 604807628).set 20 770255983).set 21 1249150122).set 22 1555081692).set 23 1996064986).set 24 2554220882).set 25 2821834349).set 26 2952996808).set 27 3210313671).set 28 3336571891).set 29 3584528711).set 30 113926993).set 31 338241895).set 32 666307205).set 33 773529912).set 34 1294757372).set 35 1396182291).set 36 1695183700).set 37 1986661051).set 38 2177026350).set 39 2456956037).set 40 2730485921).set 41 2820302411).set 42 3259730800).set 43 3345764771).set 44 3516065817).set 45 3600352804).set 46 4094571909).set 47 275423344).set 48 430227734).set 49 506948616).set 50 659060556).set 51 883997877).set 52 958139571).set 53 1322822218).set 54 1537002063).set 55 1747873779).set 56 1955562222).set 57 2024104815).set 58 2227730452).set 59 2361852424).set 60 2428436474).set 61 2756734187).set 62 3204031479).set 63 3329325298)
noncomputable def F134 : St [.agg 0 (.ty (.arr .u32 8)), .slot 1 (.ty (.sl (.int .u8)))] → Option (St [.agg 0 (.ty (.arr .u32 8))]) := fun x => (F149 x.snd).bind fun y0 => (F150 ()).bind fun y1 => (loopS (fun s2 => bif decide (s2.fst < 64) then s2.snd.l[0]?.bind fun y3 => s2.snd.l[4]?.bind fun y4 => s2.snd.l[7]?.bind fun y5 => (F151 (y4, 6)).bind fun y6 => (F151 (y4, 11)).bind fun y7 => (F151 (y4, 25)).bind fun y8 => s2.snd.l[5]?.bind fun y9 => s2.snd.l[6]?.bind fun y10 => bif inB s2.fst 64 then y1.l[Int.toNat s2.fst]?.bind fun y11 => bif inB s2.fst 64 then y0.l[Int.toNat s2.fst]?.bind fun y12 => (F151 (y3, 2)).bind fun y13 => (F151 (y3, 13)).bind fun y14 => (F151 (y3, 22)).bind fun y15 => s2.snd.l[1]?.bind fun y16 => s2.snd.l[2]?.bind fun y17 => s2.snd.l[1]?.bind fun y18 => s2.snd.l[2]?.bind fun y19 => s2.snd.l[1]?.bind fun y20 => s2.snd.l[2]?.bind fun y21 => s2.snd.l[3]?.bind fun y22 => s2.snd.l[5]?.bind fun y23 => s2.snd.l[6]?.bind fun y24 => bif f64 (s2.fst + 1) then some (Sum.inl (s2.fst + 1, ((((((((Arr.zero 8).set 0 (IntKind.u32.wrap (IntKind.u32.wrap (IntKind.u32.wrap (IntKind.u32.wrap (IntKind.u32.wrap (y5 + bXor IntKind.u32 (bXor IntKind.u32 y6 y7) y8) + bXor IntKind.u32 (bAnd IntKind.u32 y4 y9) (bAnd IntKind.u32 (bXor IntKind.u32 4294967295 y4) y10)) + y11) + y12) + IntKind.u32.wrap (bXor IntKind.u32 (bXor IntKind.u32 y13 y14) y15 + bXor IntKind.u32 (bXor IntKind.u32 (bAnd IntKind.u32 y3 y16) (bAnd IntKind.u32 y3 y17)) (bAnd IntKind.u32 y18 y19))))).set 1 y3).set 2 y20).set 3 y21).set 4 (IntKind.u32.wrap (y22 + IntKind.u32.wrap (IntKind.u32.wrap (IntKind.u32.wrap (IntKind.u32.wrap (y5 + bXor IntKind.u32 (bXor IntKind.u32 y6 y7) y8) + bXor IntKind.u32 (bAnd IntKind.u32 y4 y9) (bAnd IntKind.u32 (bXor IntKind.u32 4294967295 y4) y10)) + y11) + y12)))).set 5 y4).set 6 y23).set 7 y24)) else none else none else none else some (Sum.inr s2.snd)) (0, x.fst)).bind fun y2 => (loopS (fun s3 => bif decide (s3.fst < 8) then bif inB s3.fst 8 then s3.snd.l[Int.toNat s3.fst]?.bind fun y4 => bif inB s3.fst 8 then x.fst.l[Int.toNat s3.fst]?.bind fun y5 => bif inB s3.fst 8 then bif decide (Int.toNat s3.fst < 8) then bif f64 (s3.fst + 1) then some (Sum.inl (s3.fst + 1, Arr.set s3.snd (Int.toNat s3.fst) (IntKind.u32.wrap (y4 + y5)))) else none else none else none else none else none else some (Sum.inr s3.snd)) (0, y2)).bind fun y3 => some y3
noncomputable def F111 : St [.slot 0 (.ptr 167 (.pr (.ty .bool) (.pr (.ty (.arr .u32 8)) (.pr (.ty (.arr .u8 64)) (.ty (.int .i64)))))), .slot 1 (.ty (.sl (.int .u8)))] → Option (St [.blk 0 167 (.pr (.ty .bool) (.pr (.ty (.arr .u32 8)) (.pr (.ty (.arr .u8 64)) (.ty (.int .i64)))))]) := fun x => bif !x.fst.fst then some (x.fst.fst, x.fst.snd.fst, x.fst.snd.snd.fst, x.fst.snd.snd.snd) else (loopS (fun s0 => bif decide (0 < zi (List.length s0.fst)) then bif true && (decide (0 ≤ Int.tmod s0.snd.snd.snd.snd 64) && decide (Int.tmod s0.snd.snd.snd.snd 64 ≤ 64)) then bif true && (decide (0 ≤ zi ((List.length s0.fst).min (subN 64 (Int.tmod s0.snd.snd.snd.snd 64).toNat))) && decide (zi ((List.length s0.fst).min (subN 64 (Int.tmod s0.snd.snd.snd.snd 64).toNat)) ≤ zi (List.length s0.fst))) then bif f64 (s0.snd.snd.snd.snd + zi ((List.length s0.fst).min (subN 64 (Int.tmod s0.snd.snd.snd.snd 64).toNat))) then bif f64 (Int.tmod s0.snd.snd.snd.snd 64 + zi ((List.length s0.fst).min (subN 64 (Int.tmod s0.snd.snd.snd.snd 64).toNat))) then (bif decide (Int.tmod s0.snd.snd.snd.snd 64 + zi ((List.length s0.fst).min (subN 64 (Int.tmod s0.snd.snd.snd.snd 64).toNat)) = 64) then (F134 (s0.snd.snd.fst, List.take 64 (List.drop 0 (List.take 64 (over s0.snd.snd.snd.fst.l (Int.tmod s0.snd.snd.snd.snd 64).toNat (List.take ((List.length s0.fst).min (subN 64 (Int.tmod s0.snd.snd.snd.snd 64).toNat)) s0.fst) ++ zer 64))))).bind fun y1 => some (s0.snd.fst, y1, Arr.of 64 (over s0.snd.snd.snd.fst.l (Int.tmod s0.snd.snd.snd.snd 64).toNat (List.take ((List.length s0.fst).min (subN 64 (Int.tmod s0.snd.snd.snd.snd 64).toNat)) s0.fst)), s0.snd.snd.snd.snd + zi ((List.length s0.fst).min (subN 64 (Int.tmod s0.snd.snd.snd.snd 64).toNat))) else some (s0.snd.fst, s0.snd.snd.fst, Arr.of 64 (over s0.snd.snd.snd.fst.l (Int.tmod s0.snd.snd.snd.snd 64).toNat (List.take ((List.length s0.fst).min (subN 64 (Int.tmod s0.snd.snd.snd.snd 64).toNat)) s0.fst)), s0.snd.snd.snd.snd + zi ((List.length s0.fst).min (subN 64 (Int.tmod s0.snd.snd.snd.snd 64).toNat)))).bind fun y1 => some (Sum.inl (List.take (subN (List.length s0.fst) (zi ((List.length s0.fst).min (subN 64 (Int.tmod s0.snd.snd.snd.snd 64).toNat))).toNat) (List.drop (zi ((List.length s0.fst).min (subN 64 (Int.tmod s0.snd.snd.snd.snd 64).toNat))).toNat s0.fst), y1.fst, y1.snd.fst, y1.snd.snd.fst, y1.snd.snd.snd)) else none else none else none else none else some (Sum.inr (s0.snd.fst, s0.snd.snd.fst, s0.snd.snd.snd.fst, s0.snd.snd.snd.snd))) (x.snd, x.fst.fst, x.fst.snd.fst, x.fst.snd.snd.fst, x.fst.snd.snd.snd)).bind fun y0 => some (y0.fst, y0.snd.fst, y0.snd.snd.fst, y0.snd.snd.snd)
noncomputable def F112 : St [.slot 0 (.ptr 167 (.pr (.ty .bool) (.pr (.ty (.arr .u32 8)) (.pr (.ty (.arr .u8 64)) (.ty (.int .i64))))))] → Option (St [.agg 0 (.ty (.arr .u8 32)), .blk 0 167 (.pr (.ty .bool) (.pr (.ty (.arr .u32 8)) (.pr (.ty (.arr .u8 64)) (.ty (.int .i64)))))]) := fun x => bif !x.fst then some (Arr.zero 32, x.fst, x.snd.fst, x.snd.snd.fst, x.snd.snd.snd) else bif f64 (119 - Int.tmod x.snd.snd.snd 64) then bif f64 (1 + (119 - Int.tmod x.snd.snd.snd 64).tmod 64) then bif decide (0 ≤ 1 + (119 - Int.tmod x.snd.snd.snd 64).tmod 64) && decide (1 + (119 - Int.tmod x.snd.snd.snd 64).tmod 64 ≤ 80) && true then bif inB 0 (zer (1 + (119 - Int.tmod x.snd.snd.snd 64).tmod 64).toNat).length then (zer (1 + (119 - Int.tmod x.snd.snd.snd 64).tmod 64).toNat)[0]?.bind fun y0 => (loopS (fun s1 => bif decide (0 ≤ s1.snd) then bif f64 (8 * x.snd.snd.snd) then bif decide (0 ≤ s1.snd) then bif roomFor (List.length s1.fst + [IntKind.u8.wrap (sShr IntKind.i64 (8 * x.snd.snd.snd) s1.snd)].length) 1 then bif f64 (s1.snd - 8) then some (Sum.inl (s1.fst ++ [IntKind.u8.wrap (sShr IntKind.i64 (8 * x.snd.snd.snd) s1.snd)], s1.snd - 8)) else none else none else none else none else some (Sum.inr s1.fst)) ((zer (1 + (119 - Int.tmod x.snd.snd.snd 64).tmod 64).toNat).set 0 128, 56)).bind fun y1 => (F111 ((x.fst, x.snd.fst, x.snd.snd.fst, x.snd.snd.snd), y1)).bind fun y2 => (loopS (fun s3 => bif decide (s3.fst < 8) then bif inB s3.fst 8 then y2.snd.fst.l[Int.toNat s3.fst]?.bind fun y4 => bif f64 (4 * s3.fst) then bif true && (decide (0 ≤ 4 * s3.fst) && decide (4 * s3.fst ≤ 32)) then bif f64 (s3.fst + 1) then some (Sum.inl (s3.fst + 1, Arr.of 32 (over s3.snd.l (4 * s3.fst).toNat (List.take ([IntKind.u8.wrap (sShr IntKind.u32 y4 24), IntKind.u8.wrap (sShr IntKind.u32 y4 16), IntKind.u8.wrap (sShr IntKind.u32 y4 8), IntKind.u8.wrap y4].length.min (subN 32 (4 * s3.fst).toNat)) [IntKind.u8.wrap (sShr IntKind.u32 y4 24), IntKind.u8.wrap (sShr IntKind.u32 y4 16), IntKind.u8.wrap (sShr IntKind.u32 y4 8), IntKind.u8.wrap y4])))) else none else none else none else none else some (Sum.inr s3.snd)) (0, Arr.zero 32)).bind fun y3 => some (y3, x.fst, x.snd.fst, x.snd.snd.fst, x.snd.snd.snd) else none else none else none else none
noncomputable def F74 : St [.slot 0 (.ty (.sl (.int .u8)))] → Option (St [.agg 0 (.ty (.arr .u8 32))]) := fun x => (F110 ()).bind fun y0 => (F111 ((y0.fst, y0.snd.fst, y0.snd.snd.fst, y0.snd.snd.snd), x)).bind fun y1 => (F112 (y1.fst, y1.snd.fst, y1.snd.snd.fst, y1.snd.snd.snd)).bind fun y2 => some y2.fst
noncomputable def F36 : St [.slot 0 (.ty (.sl (.int .u8)))] → Option (St [.agg 0 (.ty (.arr .u8 16))]) := fun x => (F74 x).bind fun y0 => some (Arr.of 16 (List.take 16 (List.drop 0 y0.l)))
noncomputable def F106 : St [.slot 0 (.nils), .slot 1 (.ty (.int .i64))] → Option (St [.slot 0 (.own (.int .u8) 5)]) := fun x => bif decide (x.snd < 0) then none else bif f64 (x.snd - 0) then (bif decide (0 < x.snd - 0) then bif decide (0 < x.snd - 0) && roomFor (x.snd - 0).toNat 1 then bif decide (0 ≤ zi (zer (x.snd - 0).toNat).length) && true then some (List.take 0 (zer (x.snd - 0).toNat)) else none else none else some []).bind fun y0 => some y0 else none
noncomputable def F64 : St [.slot 0 (.ty (.sl (.sl (.int .u8))))] → Option (St [.slot 0 (.own (.int .u8) 5)]) := fun x => (loopS (fun s0 => bif decide (s0.snd < zi x.length) then bif inB s0.snd x.length then x[Int.toNat s0.snd]?.bind fun y1 => bif f64 (s0.fst + zi y1.length) then bif decide (s0.fst + zi y1.length < 0) then none else bif f64 (s0.snd + 1) then some (Sum.inl (s0.fst + zi y1.length, s0.snd + 1)) else none else none else none else some (Sum.inr s0.fst)) (0, 0)).bind fun y0 => (F106 ((), y0)).bind fun y1 => (loopS (fun s2 => bif decide (s2.snd < zi x.length) then bif inB s2.snd x.length then x[Int.toNat s2.snd]?.bind fun y3 => bif roomFor (List.length s2.fst + y3.length) 1 then bif f64 (s2.snd + 1) then some (Sum.inl (s2.fst ++ y3, s2.snd + 1)) else none else none else none else some (Sum.inr s2.fst)) (y1, 0)).bind fun y2 => some y2
noncomputable def F65 : St [.slot 0 (.ty (.sl (.int .u8)))] → Option (St [.slot 0 (.own (.int .u8) 5)]) := fun x => (F105 x).bind fun y0 => (F64 [x, [IntKind.u8.wrap y0, IntKind.u8.wrap (sShr IntKind.u32 y0 8), IntKind.u8.wrap (sShr IntKind.u32 y0 16), IntKind.u8.wrap (sShr IntKind.u32 y0 24)]]).bind fun y1 => some y1
noncomputable def F19 : St [.slot 0 (.ty (.sl (.int .u8)))] → Option (St [.slot 0 (.own (.int .u8) 5), .agg 1 (.ty (.arr .u8 16)), .slot 2 (.ty (.int .i64))]) := fun x => bif decide (zi x.length = 0) then some ([], Arr.zero 16, 2) else bif decide (1024 < zi x.length) then some ([], Arr.zero 16, 3) else (F63 (zi x.length)).bind fun y0 => (F36 x).bind fun y1 => (F64 [List.take 16 (List.drop 0 y1.l), x]).bind fun y2 => (F65 y2).bind fun y3 => (F64 [List.take 6 (List.drop 0 y0.l), y3]).bind fun y4 => some (y4, y1, 0)
noncomputable def F31 : St [] → Option (St [.slot 0 (.own (.int .u8) 5)]) := fun x => (F19 [7]).bind fun y0 => bif !!decide (y0.snd.snd = 0) then bif !decide (zi (List.length y0.fst) = 27) then some [] else some y0.fst else some []
noncomputable def F33 : St [.slot 0 (.ty (.int .i64))] → Option (St [.agg 0 (.pr (.ty (.arr .u8 16)) (.pr (.ty (.int .i64)) (.ty (.int .i64))))]) := fun x => (F36 [7]).bind fun y0 => some (y0, x, 1)
noncomputable def F22 : St [.slot 0 (.ty (.int .i64))] → Option (St [.slot 0 (.ty (.int .i64))]) := fun x => bif !decide (x < 1) then bif decide (1024 < x) then some 0 else bif f64 (x + 26) then some (x + 26) else none else some 0
noncomputable def F72 : St [.slot 0 (.ty (.sl (.int .u8))), .slot 1 (.ty (.int .i64))] → Option (St [.slot 0 (.ty (.int .i64)), .slot 1 (.ty .bool)]) := fun x => bif !decide (x.snd < 0) then bif f64 (zi (List.length x.fst) - 6) then bif decide (zi (List.length x.fst) - 6 < x.snd) then some (0, false) else bif inB x.snd (List.length x.fst) then x.fst[Int.toNat x.snd]?.bind fun y0 => bif f64 y0 then bif f64 (x.snd + 1) then bif inB (x.snd + 1) (List.length x.fst) then x.fst[(x.snd + 1).toNat]?.bind fun y1 => bif f64 y1 then (F22 (bOr IntKind.i64 (sShl IntKind.i64 y0 8) y1)).bind fun y2 => bif decide (0 < y2) then bif f64 (x.snd + 6) then bif decide (x.snd + 6 ≤ zi (List.length x.fst)) && (decide (0 ≤ x.snd) && decide (x.snd ≤ x.snd + 6)) then bif decide (6 ≤ subN (x.snd + 6).toNat (Int.toNat x.snd)) then bif decide (Int.toNat x.snd + 6 ≤ List.length x.fst) then (F63 (bOr IntKind.i64 (sShl IntKind.i64 y0 8) y1)).bind fun y3 => some (bOr IntKind.i64 (sShl IntKind.i64 y0 8) y1, eqT (Ty.arr IntKind.u8 6) (Arr.of 6 (List.take 6 (List.drop (Int.toNat x.snd) x.fst))) y3) else none else none else none else none else some (bOr IntKind.i64 (sShl IntKind.i64 y0 8) y1, false) else none else none else none else none else none else none else some (0, false)
noncomputable def F116 : St [.slot 0 (.ty (.sl (.int .u8))), .slot 1 (.ty (.sl (.int .u8)))] → Option (St [.slot 0 (.ty .bool)]) := fun x => bif !decide (zi (List.length x.fst) = zi (List.length x.snd)) then some false else (loopS (fun s0 => bif decide (s0 < zi (List.length x.fst)) then bif inB s0 (List.length x.fst) then x.fst[s0.toNat]?.bind fun y1 => bif inB s0 (List.length x.snd) then x.snd[s0.toNat]?.bind fun y2 => bif !decide (y1 = y2) then some (Sum.inr (Sum.inl false)) else bif f64 (s0 + 1) then some (Sum.inl (s0 + 1)) else none else none else none else some (Sum.inr (Sum.inr ()))) 0).bind fun y0 => selim y0
 (fun y1 => some y1) (fun y1 => some true)
noncomputable def F117 : St [.slot 0 (.ty (.sl (.int .u8)))] → Option (St [.slot 0 (.own (.int .u8) 5)]) := fun x => bif !decide (x.length = 0) then bif roomFor (0 + x.length) 1 then some ([] ++ x) else none else none
noncomputable def F81 : St [.slot 0 (.ty (.sl (.int .u8)))] → Option (St [.slot 0 (.own (.int .u8) 5), .slot 1 (.ty (.int .i64))]) := fun x => bif f64 (zi x.length - 4) then bif !decide (zi x.length - 4 < 0) then bif decide (zi x.length - 4 ≤ zi x.length) && decide (0 ≤ zi x.length - 4) then (F65 (List.take (subN (zi x.length - 4).toNat 0) (List.drop 0 x))).bind fun y0 => (F116 (y0, x)).bind fun y1 => bif !y1 then some ([], 4) else bif decide (zi x.length - 4 ≤ zi x.length) && decide (0 ≤ zi x.length - 4) then (F117 (List.take (subN (zi x.length - 4).toNat 0) (List.drop 0 x))).bind fun y2 => some (y2, 0) else none else none else some ([], 4) else none
noncomputable def F73 : St [.slot 0 (.ty (.sl (.int .u8))), .slot 1 (.ty (.int .i64)), .slot 2 (.ty (.int .i64))] → Option (St [.agg 0 (.ty (.arr .u8 16)), .slot 1 (.wnd (.int .u8) 5 false), .slot 2 (.ty .bool)]) := fun x => bif f64 (x.snd.fst + 6) then (F22 x.snd.snd).bind fun y0 => bif f64 (x.snd.fst + y0) then bif decide (x.snd.fst + y0 ≤ zi (List.length x.fst)) && (decide (0 ≤ x.snd.fst + 6) && decide (x.snd.fst + 6 ≤ x.snd.fst + y0)) then (F81 (List.take (subN (x.snd.fst + y0).toNat (x.snd.fst + 6).toNat) (List.drop (x.snd.fst + 6).toNat x.fst))).bind fun y1 => bif !decide (y1.snd = 0) then some (Arr.zero 16, ([], [], []), false) else bif decide (16 ≤ zi (List.length y1.fst)) && true then bif decide (16 ≤ List.length y1.fst) then bif true && (true && decide (16 ≤ zi (List.length y1.fst))) then bif true && (true && decide (16 ≤ zi (List.length y1.fst))) then (F36 (List.take (subN (List.length y1.fst) 16) (List.drop 16 y1.fst))).bind fun y2 => some (Arr.of 16 (List.take 16 (List.drop 0 y1.fst)), (List.take 16 y1.fst, List.take (subN (List.length y1.fst) 16) (List.drop 16 y1.fst), List.drop (16 + subN (List.length y1.fst) 16) y1.fst), eqT (Ty.arr IntKind.u8 16) y2 (Arr.of 16 (List.take 16 (List.drop 0 y1.fst)))) else none else none else none else none else none else none else none
noncomputable def F29 : St [.slot 0 (.ty (.sl (.int .u8))), .agg 1 (.pr (.ty (.arr .u8 16)) (.pr (.ty (.int .i64)) (.ty (.int .i64))))] → Option (St [.slot 0 (.wnd (.int .u8) 5 false), .slot 1 (.ty (.int .i64))]) := fun x => (F72 (x.fst, x.snd.snd.fst)).bind fun y0 => bif !!y0.snd then bif !!decide (y0.fst = x.snd.snd.snd) then bif f64 (zi (List.length x.fst) - x.snd.snd.fst) then (F22 y0.fst).bind fun y1 => bif decide (zi (List.length x.fst) - x.snd.snd.fst < y1) then some (([], [], []), 6) else (F73 (x.fst, x.snd.snd.fst, y0.fst)).bind fun y2 => bif !!y2.snd.snd then bif !eqT (Ty.arr IntKind.u8 16) y2.fst x.snd.fst then some (([], [], []), 11) else some ((List.take y2.snd.fst.fst.length (y2.snd.fst.fst ++ (y2.snd.fst.snd.fst ++ y2.snd.fst.snd.snd)), List.take y2.snd.fst.snd.fst.length (List.drop y2.snd.fst.fst.length (y2.snd.fst.fst ++ (y2.snd.fst.snd.fst ++ y2.snd.fst.snd.snd))), List.drop (y2.snd.fst.fst.length + y2.snd.fst.snd.fst.length) (y2.snd.fst.fst ++ (y2.snd.fst.snd.fst ++ y2.snd.fst.snd.snd))), 0) else some (([], [], []), 11) else none else some (([], [], []), 6) else some (([], [], []), 6)
noncomputable def F21 : St [.slot 0 (.ty (.sl (.int .u8))), .slot 1 (.ty (.sl (.int .u8)))] → Option (St [.slot 0 (.ty .bool)]) := fun x => some (bytesOf x.fst == bytesOf x.snd)
noncomputable def F32 : St [.slot 0 (.ty (.sl (.int .u8)))] → Option (St [.slot 0 (.own (.int .u8) 5)]) := fun x => bif roomFor (0 + x.length) 1 then some ([] ++ x) else none
noncomputable def F69 : St [.slot 0 (.ty (.sl (.int .u8)))] → Option (St [.slot 0 (.fn 109 (.unit) (.ptr 22 (.ty (.sl (.int .u8)))))]) := fun x => some ((), x)
noncomputable def F26 : St [.slot 0 (.ty (.sl (.int .u8)))] → Option (St [.slot 0 (.own (.pr (.arr .u8 16) (.pr (.int .i64) (.int .i64))) 35), .slot 1 (.ty (.int .i64)), .slot 2 (.ty (.int .i64)), .slot 3 (.ty (.int .i64))]) := fun x => (F69 x).bind fun y0 => (loopS (fun s1 => (F72 (y0.snd, s1.fst)).bind fun y2 => (bif decide (s1.fst = zi (List.length y0.snd)) then some (Sum.inl (s1.fst, 0, s1.snd.fst, s1.snd.snd.fst)) else bif f64 (zi (List.length y0.snd) - s1.fst) then (bif decide (zi (List.length y0.snd) - s1.fst < 6) then some true else bif y2.snd then bif f64 (zi (List.length y0.snd) - s1.fst) then (F22 y2.fst).bind fun y3 => some (decide (zi (List.length y0.snd) - s1.fst < y3)) else none else some false).bind fun y3 => (bif y3 then some (Sum.inl (s1.fst, 1, s1.snd.fst, s1.snd.snd.fst)) else bif y2.snd then (F73 (y0.snd, s1.fst, y2.fst)).bind fun y4 => (bif y4.snd.snd then bif roomFor (List.length s1.snd.fst + [(y4.fst, s1.fst, y2.fst)].length) 32 then some (s1.snd.fst ++ [(y4.fst, s1.fst, y2.fst)], s1.snd.snd.fst) else none else bif f64 (s1.snd.snd.fst + 1) then some (s1.snd.fst, s1.snd.snd.fst + 1) else none).bind fun y5 => (F22 y2.fst).bind fun y6 => bif f64 (s1.fst + y6) then some (Sum.inr (s1.fst + y6, y5.fst, y5.snd)) else none else some (Sum.inl (s1.fst, 2, s1.snd.fst, s1.snd.snd.fst))).bind fun y4 => selim y4 (fun y5 => some (Sum.inl (y5.fst, y5.snd.fst, y5.snd.snd.fst, y5.snd.snd.snd))) fun y5 => some (Sum.inr (y5.fst, y5.snd.fst, y5.snd.snd)) else none).bind fun y3 => selim y3 (fun y4 => bif decide (0 ≤ y4.snd.fst) then some (Sum.inr (y4.snd.fst, y4.fst, y4.snd.snd.fst, y4.snd.snd.snd)) else (bif f64 (y4.snd.snd.snd + 1) then noneOf (List (Arr 16 × Int × Int) × Int) else noneOf (List (Arr 16 × Int × Int) × Int)).bind fun y5 => some (Sum.inr (s1.snd.snd.snd.fst, s1.snd.snd.snd.snd, y5.fst, y5.snd))) fun y4 => some (Sum.inl (y4.fst, y4.snd.fst, y4.snd.snd, s1.snd.snd.snd.fst, s1.snd.snd.snd.snd))) (0, [], 0, 0, 0)).bind fun y1 => some (y1.snd.snd.fst, y1.snd.fst, y1.snd.snd.snd, y1.fst)
noncomputable def F28 : St [.slot 0 (.ty (.sl (.pr (.arr .u8 16) (.pr (.int .i64) (.int .i64))))), .slot 1 (.ty (.sl (.pr (.arr .u8 16) (.pr (.int .i64) (.int .i64)))))] → Option (St [.slot 0 (.ty .bool)]) := fun x => bif !decide (zi (List.length x.fst) = zi (List.length x.snd)) then some false else (loopS (fun s0 => bif decide (s0 < zi (List.length x.fst)) then bif inB s0 (List.length x.fst) then x.fst[s0.toNat]?.bind fun y1 => bif inB s0 (List.length x.snd) then x.snd[s0.toNat]?.bind fun y2 => bif !eqT ((Ty.arr IntKind.u8 16).pr ((Ty.int IntKind.i64).pr (Ty.int IntKind.i64))) (y1.fst, y1.snd.fst, y1.snd.snd) (y2.fst, y2.snd.fst, y2.snd.snd) then some (Sum.inr (Sum.inl false)) else bif f64 (s0 + 1) then some (Sum.inl (s0 + 1)) else none else none else none else some (Sum.inr (Sum.inr ()))) 0).bind fun y0 => selim y0
 (fun y1 => some y1) (fun y1 => some true)
noncomputable def F34 : St [.slot 0 (.ty (.sl (.int .u8))), .slot 1 (.ty (.int .i64)), .slot 2 (.ty (.int .i64)), .slot 3 (.ty (.int .i64)), .slot 4 (.ty (.sl (.pr (.arr .u8 16) (.pr (.int .i64) (.int .i64)))))] → Option (St [.slot 0 (.ty .bool)]) := fun x => (F26 x.fst).bind fun y0 => (F28 (y0.fst, x.snd.snd.snd.snd)).bind fun y1 => bif y1 then bif decide (y0.snd.fst = x.snd.fst) then bif decide (y0.snd.snd.fst = x.snd.snd.fst) then some (decide (y0.snd.snd.snd = x.snd.snd.snd.fst)) else some false else some false else some false
noncomputable def F17 : St [] → Option (St [.slot 0 (.ty .bool)]) := fun x => (F31 ()).bind fun y0 => bif !decide (y0.length = 0) then (F33 0).bind fun y1 => (F29 (y0, y1.fst, y1.snd.fst, y1.snd.snd)).bind fun y2 => bif decide (4 ≤ zi y0.length) && true then (F21 (List.take 4 (List.drop 0 y0), [0, 1, 255, 254])).bind fun y3 => bif y3 then bif decide (y2.snd = 0) then (F21 (List.take y2.fst.snd.fst.length (List.drop y2.fst.fst.length (y2.fst.fst ++ (y2.fst.snd.fst ++ y2.fst.snd.snd))), [7])).bind fun y4 => bif y4 then (F32 y0).bind fun y5 => bif roomFor (y5.length + y0.length) 1 then bif decide (26 ≤ zi y0.length) && true then bif roomFor ((y5 ++ y0).length + (List.take 26 (List.drop 0 y0)).length) 1 then (F33 0).bind fun y6 => (F33 27).bind fun y7 => (F34 (y5 ++ y0 ++ List.take 26 (List.drop 0 y0), 54, 0, 1, [(y6.fst, y6.snd.fst, y6.snd.snd), (y7.fst, y7.snd.fst, y7.snd.snd)])).bind fun y8 => some y8 else none else none else none else some false else some false else some false else none else none
noncomputable def F18 : St [.slot 0 (.ty (.sl (.int .u8)))] → Option (St [.slot 0 (.wnd (.int .u8) 5 true)]) := fun x => bif f64 (zi x.length + 3) then bif decide (0 ≤ zi x.length + 3) && roomFor (zi x.length + 3).toNat 1 then (loopS (fun s0 => bif decide (s0.fst < zi (List.length s0.snd)) then bif f64 (160 + Int.tmod s0.fst 90) then bif inB s0.fst (List.length s0.snd) then s0.snd[Int.toNat s0.fst]?.bind fun y1 => bif f64 (s0.fst + 1) then some (Sum.inl (s0.fst + 1, List.set s0.snd (Int.toNat s0.fst) (IntKind.u8.wrap (160 + Int.tmod s0.fst 90)))) else none else none else none else some (Sum.inr s0.snd)) (zi x.length, over (zer (zi x.length + 3).toNat) 0 (List.take (x.length.min (zer (zi x.length + 3).toNat).length) x))).bind fun y0 => bif decide (zi x.length ≤ zi y0.length) && decide (0 ≤ zi x.length) then some (List.take 0 y0, List.take (subN (zi x.length).toNat 0) (List.drop 0 y0), List.drop (0 + subN (zi x.length).toNat 0) y0) else none else none else none
noncomputable def F131 : St [.slot 0 (.ty (.sl (.int .u8)))] → Option (St [.slot 0 (.own (.int .u8) 5)]) := fun x => bif roomFor (0 + x.length) 1 then bif roomFor (([] ++ x).length + 1) 1 then (loopS (fun s0 => bif !decide ((zi s0.length).tmod 64 = 56) then bif roomFor (s0.length + 1) 1 then some (Sum.inl (s0 ++ [0])) else none else some (Sum.inr s0)) ([] ++ x ++ [128])).bind fun y0 => bif f64 (8 * zi x.length) then (loopS (fun s1 => bif decide (0 ≤ s1.snd) then bif f64 (8 * s1.snd) then bif decide (0 ≤ 8 * s1.snd) then bif roomFor (List.length s1.fst + [IntKind.u8.wrap (sShr IntKind.i64 (8 * zi x.length) (8 * s1.snd))].length) 1 then bif f64 (s1.snd - 1) then some (Sum.inl (s1.fst ++ [IntKind.u8.wrap (sShr IntKind.i64 (8 * zi x.length) (8 * s1.snd))], s1.snd - 1)) else none else none else none else none else some (Sum.inr s1.fst)) (y0, 7)).bind fun y1 => some y1 else none else none else none
noncomputable def F148 : St [.slot 0 (.ty (.int .u32)), .slot 1 (.ty (.int .i64))] → Option (St [.slot 0 (.ty (.int .u32))]) := fun x => bif decide (0 ≤ x.snd) then bif f64 (32 - x.snd) then bif decide (0 ≤ 32 - x.snd) then some (bOr IntKind.u32 (sShr IntKind.u32 x.fst x.snd) (sShl IntKind.u32 x.fst (32 - x.snd))) else none else none else none
noncomputable def F146 : St [.slot 0 (.ty (.sl (.int .u8)))] → Option (St [.agg 0 (.ty (.arr .u32 64))]) := fun x => (loopS (fun s0 => bif decide (s0.fst < 16) then bif f64 (4 * s0.fst) then bif inB (4 * s0.fst) x.length then x[(4 * s0.fst).toNat]?.bind fun y1 => bif f64 (4 * s0.fst) then bif f64 (4 * s0.fst + 1) then bif inB (4 * s0.fst + 1) x.length then x[(4 * s0.fst + 1).toNat]?.bind fun y2 => bif f64 (4 * s0.fst) then bif f64 (4 * s0.fst + 2) then bif inB (4 * s0.fst + 2) x.length then x[(4 * s0.fst + 2).toNat]?.bind fun y3 => bif f64 (4 * s0.fst) then bif f64 (4 * s0.fst + 3) then bif inB (4 * s0.fst + 3) x.length then x[(4 * s0.fst + 3).toNat]?.bind fun y4 => bif inB s0.fst 64 then bif decide (Int.toNat s0.fst < 64) then bif f64 (s0.fst + 1) then some (Sum.inl (s0.fst + 1, Arr.set s0.snd (Int.toNat s0.fst) (bOr IntKind.u32 (bOr IntKind.u32 (bOr IntKind.u32 (sShl IntKind.u32 (IntKind.u32.wrap y1) 24) (sShl IntKind.u32 (IntKind.u32.wrap y2) 16)) (sShl IntKind.u32 (IntKind.u32.wrap y3) 8)) (IntKind.u32.wrap y4)))) else none else none else none else none else none else none else none else none else none else none else none else none else none else none else some (Sum.inr s0.snd)) (0, Arr.zero 64)).bind fun y0 => (loopS (fun s1 => bif decide (s1.fst < 64) then bif f64 (s1.fst - 15) then bif inB (s1.fst - 15) 64 then s1.snd.l[(s1.fst - 15).toNat]?.bind fun y2 => bif f64 (s1.fst - 2) then bif inB (s1.fst - 2) 64 then s1.snd.l[(s1.fst - 2).toNat]?.bind fun y3 => bif f64 (s1.fst - 16) then bif inB (s1.fst - 16) 64 then s1.snd.l[(s1.fst - 16).toNat]?.bind fun y4 => (F148 (y2, 7)).bind fun y5 => (F148 (y2, 18)).bind fun y6 => bif f64 (s1.fst - 7) then bif inB (s1.fst - 7) 64 then s1.snd.l[(s1.fst - 7).toNat]?.bind fun y7 => (F148 (y3, 17)).bind fun y8 => (F148 (y3, 19)).bind fun y9 => bif inB s1.fst 64 then bif decide (Int.toNat s1.fst < 64) then bif f64 (s1.fst + 1) then some (Sum.inl (s1.fst + 1, Arr.set s1.snd (Int.toNat s1.fst) (IntKind.u32.wrap (IntKind.u32.wrap (IntKind.u32.wrap (y4 + bXor IntKind.u32 (bXor IntKind.u32 y5 y6) (sShr IntKind.u32 y2 3)) + y7) + bXor IntKind.u32 (bXor IntKind.u32 y8 y9) (sShr IntKind.u32 y3 10))))) else none else none else none else none else none else none else none else none else none else none else none else some (Sum.inr s1.snd)) (16, y0)).bind fun y1 => some y1
noncomputable def F147 : St [] → Option (St [.agg 0 (.ty (.arr .u32 64))]) := fun x => some (((((((((((((((((((((((((((((((((((((((((((((((((((((((((((((((((Arr.zero 64).set 0 1116352408).set 1 1899447441).set 2 3049323471).set 3 3921009573).set 4 961987163).set 5 1508970993).set 6 2453635748).set 7 2870763221).set 8 3624381080).set 9 310598401).set 10 607225278).set 11 1426881987).set 12 1925078388).set 13 2162078206).set 14 2614888103).set 15 3248222580).set 16 3835390401).set 17 4022224774).set 18 264347078).set 19 604807628).set 20 770255983).set 21 1249150122).set 22 1555081692).set 23 1996064986).set 24 2554220882).set 25 2821834349).set 26 2952996808).set 27 3210313671).set 28 3336571891).set 29 3584528711).set 30 113926993).set 31 338241895).set 32 666307205).set 33 773529912).set 34 1294757372).set 35 1396182291).set 36 1695183700).set 37 1986661051).set 38 2177026350).set 39 2456956037).set 40 2730485921).set 41 2820302411).set 42 3259730800).set 43 3345764771).set 44 3516065817).set 45 3600352804).set 46 4094571909).set 47 275423344).set 48 430227734).set 49 506948616).set 50 659060556).set 51 883997877).set 52 958139571).set 53 1322822218).set 54 1537002063).set 55 1747873779).set 56 1955562222).set 57 2024104815).set 58 2227730452).set 59 2361852424).set 60 2428436474).set 61 2756734187).set 62 3204031479).set 63 3329325298)
noncomputable def F132 : St [.agg 0 (.ty (.arr .u32 8)), .slot 1 (.ty (.sl (.int .u8)))] → Option (St [.agg 0 (.ty (.arr .u32 8))]) := fun x => (F146 x.snd).bind fun y0 => (F147 ()).bind fun y1 => (loopS (fun s2 => bif decide (s2.fst < 64) then s2.snd.l[7]?.bind fun y3 => s2.snd.l[4]?.bind fun y4 => (F148 (y4, 6)).bind fun y5 => s2.snd.l[4]?.bind fun y6 => (F148 (y6, 11)).bind fun y7 => s2.snd.l[4]?.bind fun y8 => (F148 (y8, 25)).bind fun y9 => s2.snd.l[4]?.bind fun y10 => s2.snd.l[5]?.bind fun y11 => s2.snd.l[4]?.bind fun y12 => s2.snd.l[6]?.bind fun y13 => bif inB s2.fst 64 then y1.l[Int.toNat s2.fst]?.bind fun y14 => bif inB s2.fst 64 then y0.l[Int.toNat s2.fst]?.bind fun y15 => s2.snd.l[0]?.bind fun y16 => (F148 (y16, 2)).bind fun y17 => s2.snd.l[0]?.bind fun y18 => (F148 (y18, 13)).bind fun y19 => s2.snd.l[0]?.bind fun y20 => (F148 (y20, 22)).bind fun y21 => s2.snd.l[0]?.bind fun y22 => s2.snd.l[1]?.bind fun y23 => s2.snd.l[0]?.bind fun y24 => s2.snd.l[2]?.bind fun y25 => s2.snd.l[1]?.bind fun y26 => s2.snd.l[2]?.bind fun y27 => s2.snd.l[0]?.bind fun y28 => s2.snd.l[1]?.bind fun y29 => s2.snd.l[2]?.bind fun y30 => s2.snd.l[3]?.bind fun y31 => s2.snd.l[4]?.bind fun y32 => s2.snd.l[5]?.bind fun y33 => s2.snd.l[6]?.bind fun y34 => bif f64 (s2.fst + 1) then some (Sum.inl (s2.fst + 1, ((((((((Arr.zero 8).set 0 (IntKind.u32.wrap (IntKind.u32.wrap (IntKind.u32.wrap (IntKind.u32.wrap (IntKind.u32.wrap (y3 + bXor IntKind.u32 (bXor IntKind.u32 y5 y7) y9) + bXor IntKind.u32 (bAnd IntKind.u32 y10 y11) (bAnd IntKind.u32 (bXor IntKind.u32 4294967295 y12) y13)) + y14) + y15) + IntKind.u32.wrap (bXor IntKind.u32 (bXor IntKind.u32 y17 y19) y21 + bXor IntKind.u32 (bXor IntKind.u32 (bAnd IntKind.u32 y22 y23) (bAnd IntKind.u32 y24 y25)) (bAnd IntKind.u32 y26 y27))))).set 1 y28).set 2 y29).set 3 y30).set 4 (IntKind.u32.wrap (y31 + IntKind.u32.wrap (IntKind.u32.wrap (IntKind.u32.wrap (IntKind.u32.wrap (y3 + bXor IntKind.u32 (bXor IntKind.u32 y5 y7) y9) + bXor IntKind.u32 (bAnd IntKind.u32 y10 y11) (bAnd IntKind.u32 (bXor IntKind.u32 4294967295 y12) y13)) + y14) + y15)))).set 5 y32).set 6 y33).set 7 y34)) else none else none else none else some (Sum.inr s2.snd)) (0, x.fst)).bind fun y2 => (loopS (fun s3 => bif decide (s3.fst < 8) then bif inB s3.fst 8 then s3.snd.l[Int.toNat s3.fst]?.bind fun y4 => bif inB s3.fst 8 then y2.l[Int.toNat s3.fst]?.bind fun y5 => bif inB s3.fst 8 then bif decide (Int.toNat s3.fst < 8) then bif f64 (s3.fst + 1) then some (Sum.inl (s3.fst + 1, Arr.set s3.snd (Int.toNat s3.fst) (IntKind.u32.wrap (y4 + y5)))) else none else none else none else none else none else some (Sum.inr s3.snd)) (0, x.fst)).bind fun y3 => some y3
noncomputable def F107 : St [.slot 0 (.ty (.sl (.int .u8)))] → Option (St [.agg 0 (.ty (.arr .u8 32))]) := fun x => (F131 x).bind fun y0 => (loopS (fun s1 => bif decide (s1.fst < zi y0.length) then bif f64 (s1.fst + 64) then bif decide (s1.fst + 64 ≤ zi y0.length) && (decide (0 ≤ s1.fst) && decide (s1.fst ≤ s1.fst + 64)) then (F132 (s1.snd, List.take (subN (s1.fst + 64).toNat (Int.toNat s1.fst)) (List.drop (Int.toNat s1.fst) y0))).bind fun y2 => bif f64 (s1.fst + 64) then some (Sum.inl (s1.fst + 64, y2)) else none else none else none else some (Sum.inr s1.snd)) (0, ((((((((Arr.zero 8).set 0 1779033703).set 1 3144134277).set 2 1013904242).set 3 2773480762).set 4 1359893119).set 5 2600822924).set 6 528734635).set 7 1541459225)).bind fun y1 => (loopS (fun s2 => bif decide (s2.fst < 32) then bif f64 (Int.tdiv s2.fst 4) then bif inB (Int.tdiv s2.fst 4) 8 then y1.l[(Int.tdiv s2.fst 4).toNat]?.bind fun y3 => bif f64 (8 * Int.tmod s2.fst 4) then bif f64 (24 - 8 * Int.tmod s2.fst 4) then bif decide (0 ≤ 24 - 8 * Int.tmod s2.fst 4) then bif inB s2.fst 32 then bif decide (Int.toNat s2.fst < 32) then bif f64 (s2.fst + 1) then some (Sum.inl (s2.fst + 1, Arr.set s2.snd (Int.toNat s2.fst) (IntKind.u8.wrap (sShr IntKind.u32 y3 (24 - 8 * Int.tmod s2.fst 4))))) else none else none else none else none else none else none else none else none else some (Sum.inr s2.snd)) (0, Arr.zero 32)).bind fun y2 => some y2
noncomputable def F66 : St [.slot 0 (.ty (.sl (.int .u8)))] → Option (St [.agg 0 (.ty (.arr .u8 16))]) := fun x => (F107 x).bind fun y0 => (loopS (fun s1 => bif decide (s1.fst < 16) then bif inB s1.fst 32 then y0.l[Int.toNat s1.fst]?.bind fun y2 => bif inB s1.fst 16 then bif decide (Int.toNat s1.fst < 16) then bif f64 (s1.fst + 1) then some (Sum.inl (s1.fst + 1, Arr.set s1.snd (Int.toNat s1.fst) y2)) else none else none else none else none else some (Sum.inr s1.snd)) (0, Arr.zero 16)).bind fun y1 => some y1
noncomputable def F108 : St [.slot 0 (.ty (.sl (.int .u8)))] → Option (St [.slot 0 (.ty (.int .u32))]) := fun x => (loopS (fun s0 => bif decide (s0.snd < zi x.length) then (loopS (fun s1 => bif decide (s1.snd < 8) then bif inB s0.snd x.length then x[Int.toNat s0.snd]?.bind fun y2 => bif decide (0 ≤ s1.snd) then (bif !decide (Int.tmod s1.fst 2 = (IntKind.u32.wrap (sShr IntKind.u8 y2 s1.snd)).tmod 2) then some (bXor IntKind.u32 (sShr IntKind.u32 s1.fst 1) 3988292384) else some (sShr IntKind.u32 s1.fst 1)).bind fun y3 => bif f64 (s1.snd + 1) then some (Sum.inl (y3, s1.snd + 1)) else none else none else none else some (Sum.inr s1.fst)) (s0.fst, 0)).bind fun y1 => bif f64 (s0.snd + 1) then some (Sum.inl (y1, s0.snd + 1)) else none else some (Sum.inr s0.fst)) (4294967295, 0)).bind fun y0 => some (bXor IntKind.u32 4294967295 y0)
noncomputable def F67 : St [.slot 0 (.ty (.int .i64))] → Option (St [.slot 0 (.own (.int .u8) 5)]) := fun x => bif f64 (x.tdiv 256) then bif f64 (x.tdiv 256) then bif f64 (255 - x.tdiv 256) then bif f64 (255 - x.tmod 256) then (F108 [IntKind.u8.wrap (x.tdiv 256), IntKind.u8.wrap (x.tmod 256), IntKind.u8.wrap (255 - x.tdiv 256), IntKind.u8.wrap (255 - x.tmod 256)]).bind fun y0 => bif roomFor ([IntKind.u8.wrap (x.tdiv 256), IntKind.u8.wrap (x.tmod 256), IntKind.u8.wrap (255 - x.tdiv 256), IntKind.u8.wrap (255 - x.tmod 256)].length + [IntKind.u8.wrap y0, IntKind.u8.wrap (sShr IntKind.u32 y0 8)].length) 1 then some ([IntKind.u8.wrap (x.tdiv 256), IntKind.u8.wrap (x.tmod 256), IntKind.u8.wrap (255 - x.tdiv 256), IntKind.u8.wrap (255 - x.tmod 256)] ++ [IntKind.u8.wrap y0, IntKind.u8.wrap (sShr IntKind.u32 y0 8)]) else none else none else none else none else none
noncomputable def F68 : St [.slot 0 (.ty (.sl (.int .u8)))] → Option (St [.slot 0 (.own (.int .u8) 5)]) := fun x => (F108 x).bind fun y0 => bif roomFor (0 + x.length) 1 then bif roomFor (([] ++ x).length + [IntKind.u8.wrap y0, IntKind.u8.wrap (sShr IntKind.u32 y0 8), IntKind.u8.wrap (sShr IntKind.u32 y0 16), IntKind.u8.wrap (sShr IntKind.u32 y0 24)].length) 1 then some ([] ++ x ++ [IntKind.u8.wrap y0, IntKind.u8.wrap (sShr IntKind.u32 y0 8), IntKind.u8.wrap (sShr IntKind.u32 y0 16), IntKind.u8.wrap (sShr IntKind.u32 y0 24)]) else none else none
noncomputable def F20 : St [.slot 0 (.ty (.sl (.int .u8)))] → Option (St [.slot 0 (.own (.int .u8) 5), .agg 1 (.ty (.arr .u8 16)), .slot 2 (.ty (.int .i64))]) := fun x => bif decide (zi x.length = 0) then some ([], Arr.zero 16, 2) else bif decide (1024 < zi x.length) then some ([], Arr.zero 16, 3) else (F66 x).bind fun y0 => bif roomFor (0 + (List.take 16 (List.drop 0 y0.l)).length) 1 then bif roomFor (([] ++ List.take 16 (List.drop 0 y0.l)).length + x.length) 1 then (F67 (zi x.length)).bind fun y1 => (F68 ([] ++ List.take 16 (List.drop 0 y0.l) ++ x)).bind fun y2 => bif roomFor (y1.length + y2.length) 1 then some (y1 ++ y2, y0, 0) else none else none else none
noncomputable def F23 : St [.slot 0 (.ty (.int .i64))] → Option (St [.slot 0 (.ty (.int .i64))]) := fun x => bif !decide (x < 1) then bif decide (1024 < x) then some 0 else bif f64 (x + 26) then some (x + 26) else none else some 0
noncomputable def F24 : St [.slot 0 (.wnd (.int .u8) 5 false)] → Option (St []) := fun _ => some ()
noncomputable def F25 : St [.slot 0 (.wnd (.int .u8) 5 true), .slot 1 (.ty (.sl (.int .u8)))] → Option (St [.slot 0 (.ty .bool)]) := fun x => bif decide (zi x.fst.snd.fst.length = zi (List.length x.snd)) then bif decide (zi (x.fst.fst ++ (x.fst.snd.fst ++ x.fst.snd.snd)).length - zi x.fst.fst.length ≤ zi ((x.fst.fst ++ (x.fst.snd.fst ++ x.fst.snd.snd)).length - x.fst.fst.length)) && decide (0 ≤ zi (x.fst.fst ++ (x.fst.snd.fst ++ x.fst.snd.snd)).length - zi x.fst.fst.length) then (F18 x.snd).bind fun y0 => bif f64 (zi (List.length x.snd) + 3) then bif decide (zi (List.length x.snd) + 3 ≤ zi ((y0.fst ++ (y0.snd.fst ++ y0.snd.snd)).length - y0.fst.length)) && decide (0 ≤ zi (List.length x.snd) + 3) then (F21 (List.take (subN (zi (x.fst.fst ++ (x.fst.snd.fst ++ x.fst.snd.snd)).length - zi x.fst.fst.length).toNat 0) (List.drop (x.fst.fst.length + 0) (x.fst.fst ++ (x.fst.snd.fst ++ x.fst.snd.snd))), List.take (subN (zi (List.length x.snd) + 3).toNat 0) (List.drop (y0.fst.length + 0) (y0.fst ++ (y0.snd.fst ++ y0.snd.snd))))).bind fun y1 => some y1 else none else none else none else some false
noncomputable def F3 : St [.slot 0 (.ty (.sl (.int .u8))), .slot 1 (.ty (.int .i64))] → Option (St [.slot 0 (.ty .bool)]) := fun x => bif decide (1100 < zi (List.length x.fst)) then (F17 ()).bind fun y0 => some y0 else (F18 x.fst).bind fun y0 => (F19 (List.take y0.snd.fst.length (List.drop y0.fst.length (y0.fst ++ (y0.snd.fst ++ y0.snd.snd))))).bind fun y1 => (F20 x.fst).bind fun y2 => bif decide (y1.snd.snd = y2.snd.snd) then bif eqT (Ty.arr IntKind.u8 16) y1.snd.fst y2.snd.fst then (F21 (y1.fst, y2.fst)).bind fun y3 => bif y3 then (F22 x.snd).bind fun y4 => (F23 x.snd).bind fun y5 => (F24 ([], y1.fst, [])).bind fun y6 => bif decide (y4 = y5) then (F25 ((List.take y0.fst.length (y0.fst ++ (y0.snd.fst ++ y0.snd.snd)), List.take y0.snd.fst.length (List.drop y0.fst.length (y0.fst ++ (y0.snd.fst ++ y0.snd.snd))), List.drop (y0.fst.length + y0.snd.fst.length) (y0.fst ++ (y0.snd.fst ++ y0.snd.snd))), x.fst)).bind fun y7 => bif y7 then (F17 ()).bind fun y8 => some y8 else some false else some false else (F24 ([], y1.fst, [])).bind fun y4 => some false else (F24 ([], y1.fst, [])).bind fun y3 => some false else (F24 ([], y1.fst, [])).bind fun y3 => some false
noncomputable def F70 : St [.slot 0 (.ty (.sl (.int .u8))), .slot 1 (.ty (.int .i64))] → Option (St [.slot 0 (.ty (.int .i64)), .slot 1 (.ty .bool)]) := fun x => bif !decide (x.snd < 0) then bif f64 (zi (List.length x.fst) - 6) then bif decide (zi (List.length x.fst) - 6 < x.snd) then some (0, false) else bif inB x.snd (List.length x.fst) then x.fst[Int.toNat x.snd]?.bind fun y0 => bif f64 y0 then bif f64 (256 * y0) then bif f64 (x.snd + 1) then bif inB (x.snd + 1) (List.length x.fst) then x.fst[(x.snd + 1).toNat]?.bind fun y1 => bif f64 y1 then bif f64 (256 * y0 + y1) then (F23 (256 * y0 + y1)).bind fun y2 => bif !decide (y2 = 0) then bif f64 (x.snd + 6) then bif decide (x.snd + 6 ≤ zi (List.length x.fst)) && (decide (0 ≤ x.snd) && decide (x.snd ≤ x.snd + 6)) then (F67 (256 * y0 + y1)).bind fun y3 => bif !bytesOf (List.take (subN (x.snd + 6).toNat (Int.toNat x.snd)) (List.drop (Int.toNat x.snd) x.fst)) == bytesOf y3 then some (0, false) else some (256 * y0 + y1, true) else none else none else some (0, false) else none else none else none else none else none else none else none else none else some (0, false)
noncomputable def F87 : St [.slot 0 (.ty (.sl (.int .u8)))] → Option (St [.slot 0 (.own (.int .u8) 5), .slot 1 (.ty (.int .i64))]) := fun x => bif decide (zi x.length < 4) then some ([], 4) else bif f64 (zi x.length - 4) then bif decide (zi x.length - 4 ≤ zi x.length) && decide (0 ≤ zi x.length - 4) then bif roomFor (0 + (List.take (subN (zi x.length - 4).toNat 0) (List.drop 0 x)).length) 1 then (F68 ([] ++ List.take (subN (zi x.length - 4).toNat 0) (List.drop 0 x))).bind fun y0 => bif !bytesOf y0 == bytesOf x then some ([], 4) else some ([] ++ List.take (subN (zi x.length - 4).toNat 0) (List.drop 0 x), 0) else none else none else none
noncomputable def F71 : St [.slot 0 (.ty (.sl (.int .u8))), .slot 1 (.ty (.int .i64)), .slot 2 (.ty (.int .i64))] → Option (St [.agg 0 (.ty (.arr .u8 16)), .slot 1 (.ty (.sl (.int .u8))), .slot 2 (.ty .bool)]) := fun x => bif f64 (x.snd.fst + x.snd.snd) then bif f64 (x.snd.fst + x.snd.snd + 20) then bif decide (x.snd.fst + x.snd.snd + 20 ≤ zi (List.length x.fst)) && (decide (0 ≤ x.snd.fst) && decide (x.snd.fst ≤ x.snd.fst + x.snd.snd + 20)) then (F87 (List.take (subN (x.snd.fst + x.snd.snd + 20).toNat (Int.toNat x.snd.fst)) (List.drop (Int.toNat x.snd.fst) x.fst))).bind fun y0 => bif !decide (y0.snd = 0) then some (Arr.zero 16, [], false) else (loopS (fun s1 => bif decide (s1.fst < 16) then bif inB s1.fst (List.length y0.fst) then y0.fst[Int.toNat s1.fst]?.bind fun y2 => bif inB s1.fst 16 then bif decide (Int.toNat s1.fst < 16) then bif f64 (s1.fst + 1) then some (Sum.inl (s1.fst + 1, Arr.set s1.snd (Int.toNat s1.fst) y2)) else none else none else none else none else some (Sum.inr s1.snd)) (0, Arr.zero 16)).bind fun y1 => bif true && (true && decide (16 ≤ zi (List.length y0.fst))) then bif true && (true && decide (16 ≤ zi (List.length y0.fst))) then (F66 (List.take (subN (List.length y0.fst) 16) (List.drop 16 y0.fst))).bind fun y2 => some (y1, List.take (subN (List.length y0.fst) 16) (List.drop 16 y0.fst), eqT (Ty.arr IntKind.u8 16) y2 y1) else none else none else none else none else none
noncomputable def F27 : St [.slot 0 (.ty (.sl (.int .u8)))] → Option (St [.slot 0 (.own (.pr (.arr .u8 16) (.pr (.int .i64) (.int .i64))) 35), .slot 1 (.ty (.int .i64)), .slot 2 (.ty (.int .i64)), .slot 3 (.ty (.int .i64))]) := fun x => (loopS (fun s0 => bif decide (s0.snd.fst = zi x.length) then some (Sum.inr (s0.fst, s0.snd.fst, s0.snd.snd, 0)) else bif f64 (zi x.length - s0.snd.fst) then bif decide (zi x.length - s0.snd.fst < 6) then some (Sum.inr (s0.fst, s0.snd.fst, s0.snd.snd, 1)) else (F70 (x, s0.snd.fst)).bind fun y1 => bif !y1.snd then some (Sum.inr (s0.fst, s0.snd.fst, s0.snd.snd, 2)) else bif f64 (zi x.length - s0.snd.fst) then (F23 y1.fst).bind fun y2 => bif decide (zi x.length - s0.snd.fst < y2) then some (Sum.inr (s0.fst, s0.snd.fst, s0.snd.snd, 1)) else bif f64 (s0.snd.fst + 6) then (F71 (x, s0.snd.fst + 6, y1.fst)).bind fun y3 => (bif y3.snd.snd then bif roomFor (List.length s0.fst + [(y3.fst, s0.snd.fst, y1.fst)].length) 32 then some (s0.fst ++ [(y3.fst, s0.snd.fst, y1.fst)], s0.snd.snd) else none else bif f64 (s0.snd.snd + 1) then some (s0.fst, s0.snd.snd + 1) else none).bind fun y4 => (F23 y1.fst).bind fun y5 => bif f64 (s0.snd.fst + y5) then some (Sum.inl (y4.fst, s0.snd.fst + y5, y4.snd)) else none else none else none else none) ([], 0, 0)).bind fun y0 => some (y0.fst, y0.snd.fst, y0.snd.snd.fst, y0.snd.snd.snd)
noncomputable def F30 : St [.slot 0 (.ty (.sl (.int .u8))), .agg 1 (.pr (.ty (.arr .u8 16)) (.pr (.ty (.int .i64)) (.ty (.int .i64))))] → Option (St [.slot 0 (.ty (.sl (.int .u8))), .slot 1 (.ty (.int .i64))]) := fun x => (F70 (x.fst, x.snd.snd.fst)).bind fun y0 => bif !!y0.snd then bif !!decide (y0.fst = x.snd.snd.snd) then bif f64 (zi (List.length x.fst) - x.snd.snd.fst) then (F23 y0.fst).bind fun y1 => bif decide (zi (List.length x.fst) - x.snd.snd.fst < y1) then some ([], 6) else bif f64 (x.snd.snd.fst + 6) then (F71 (x.fst, x.snd.snd.fst + 6, y0.fst)).bind fun y2 => bif !!y2.snd.snd then bif !eqT (Ty.arr IntKind.u8 16) y2.fst x.snd.fst then some ([], 11) else some (y2.snd.fst, 0) else some ([], 11) else none else none else some ([], 6) else some ([], 6)
noncomputable def F4 : St [.slot 0 (.ty (.sl (.int .u8))), .agg 1 (.pr (.ty (.arr .u8 16)) (.pr (.ty (.int .i64)) (.ty (.int .i64))))] → Option (St [.slot 0 (.ty .bool)]) := fun x => bif decide (6000 < zi (List.length x.fst)) then (F17 ()).bind fun y0 => some y0 else (F18 x.fst).bind fun y0 => (F26 (List.take y0.snd.fst.length (List.drop y0.fst.length (y0.fst ++ (y0.snd.fst ++ y0.snd.snd))))).bind fun y1 => (F27 x.fst).bind fun y2 => bif !!decide (y1.snd.fst = y2.snd.fst) then bif !!decide (y1.snd.snd.fst = y2.snd.snd.fst) then bif !!decide (y1.snd.snd.snd = y2.snd.snd.snd) then (F28 (y1.fst, y2.fst)).bind fun y3 => bif !y3 then some false else bif roomFor (0 + List.length y2.fst) 32 then bif roomFor (([] ++ y2.fst).length + [(x.snd.fst, x.snd.snd.fst, x.snd.snd.snd)].length) 32 then (loopS (fun s4 => bif decide (s4 < zi ([] ++ y2.fst ++ [(x.snd.fst, x.snd.snd.fst, x.snd.snd.snd)]).length) then bif inB s4 ([] ++ y2.fst ++ [(x.snd.fst, x.snd.snd.fst, x.snd.snd.snd)]).length then ([] ++ y2.fst ++ [(x.snd.fst, x.snd.snd.fst, x.snd.snd.snd)])[s4.toNat]?.bind fun y5 => (F29 (List.take y0.snd.fst.length (List.drop y0.fst.length (y0.fst ++ (y0.snd.fst ++ y0.snd.snd))), y5.fst, y5.snd.fst, y5.snd.snd)).bind fun y6 => bif inB s4 ([] ++ y2.fst ++ [(x.snd.fst, x.snd.snd.fst, x.snd.snd.snd)]).length then ([] ++ y2.fst ++ [(x.snd.fst, x.snd.snd.fst, x.snd.snd.snd)])[s4.toNat]?.bind fun y7 => (F30 (x.fst, y7.fst, y7.snd.fst, y7.snd.snd)).bind fun y8 => bif !!decide (y6.snd = y8.snd) then (F21 (List.take y6.fst.snd.fst.length (List.drop y6.fst.fst.length (y6.fst.fst ++ (y6.fst.snd.fst ++ y6.fst.snd.snd))), y8.fst)).bind fun y9 => bif !y9 then some (Sum.inr (Sum.inl false)) else (F24 (List.take y6.fst.fst.length (y6.fst.fst ++ (y6.fst.snd.fst ++ y6.fst.snd.snd)), List.take y6.fst.snd.fst.length (List.drop y6.fst.fst.length (y6.fst.fst ++ (y6.fst.snd.fst ++ y6.fst.snd.snd))), List.drop (y6.fst.fst.length + y6.fst.snd.fst.length) (y6.fst.fst ++ (y6.fst.snd.fst ++ y6.fst.snd.snd)))).bind fun y10 => bif f64 (s4 + 1) then some (Sum.inl (s4 + 1)) else none else some (Sum.inr (Sum.inl false)) else none else none else some (Sum.inr (Sum.inr ()))) 0).bind fun y4 => selim y4 (fun y5 => some y5) fun y5 => (F25 ((List.take y0.fst.length (y0.fst ++ (y0.snd.fst ++ y0.snd.snd)), List.take y0.snd.fst.length (List.drop y0.fst.length (y0.fst ++ (y0.snd.fst ++ y0.snd.snd))), List.drop (y0.fst.length + y0.snd.fst.length) (y0.fst ++ (y0.snd.fst ++ y0.snd.snd))), x.fst)).bind fun y6 => bif y6 then (F17 ()).bind fun y7 => some y7 else some false else none else none else some false else some false else some false
noncomputable def F5 : St [] → Option (St [.slot 0 (.ty .bool)]) := fun x => (F31 ()).bind fun y0 => bif !decide (y0.length = 0) then (F32 y0).bind fun y1 => bif roomFor (y1.length + y0.length) 1 then (F32 y0).bind fun y2 => bif roomFor (y2.length + y0.length) 1 then bif inB 26 (y1 ++ y0).length then (y1 ++ y0)[26]?.bind fun y3 => bif inB 26 (y1 ++ y0).length then (y1 ++ y0)[26]?.bind fun y4 => bif inB 1 (y2 ++ y0).length then (y2 ++ y0)[1]?.bind fun y5 => bif inB 1 (y2 ++ y0).length then (y2 ++ y0)[1]?.bind fun y6 => (F19 []).bind fun y7 => (F19 (zer 1025)).bind fun y8 => (F33 1).bind fun y9 => (F29 (y0, y9.fst, y9.snd.fst, y9.snd.snd)).bind fun y10 => (F33 0).bind fun y11 => (F29 (y0, y11.fst, 0, 2)).bind fun y12 => (F29 (y0, Arr.zero 16, 0, 1)).bind fun y13 => (F22 1).bind fun y14 => bif decide (y14 = 27) then (F22 1024).bind fun y15 => bif decide (y15 = 1050) then (F22 0).bind fun y16 => bif decide (y16 = 0) then bif decide (y7.snd.snd = 2) then (F17 ()).bind fun y17 => bif y17 then bif decide (y8.snd.snd = 3) then (F33 27).bind fun y18 => (F34 ((y1 ++ y0).set 26 (bXor IntKind.u8 y3 1), 54, 1, 0, [(y18.fst, y18.snd.fst, y18.snd.snd)])).bind fun y19 => bif y19 then (F34 ((y2 ++ y0).set 1 (bXor IntKind.u8 y5 1), 0, 0, 2, [])).bind fun y20 => bif y20 then bif decide (y10.snd = 6) then bif decide (y12.snd = 6) then some (decide (y13.snd = 11)) else some false else some false else some false else some false else some false else some false else (F17 ()).bind fun y17 => bif y17 then some false else some false else (F17 ()).bind fun y17 => bif y17 then some false else some false else (F17 ()).bind fun y16 => bif y16 then some false else some false else (F17 ()).bind fun y15 => bif y15 then some false else some false else none else none else none else none else none else none else none
noncomputable def F35 : St [.slot 0 (.ty (.sl (.sl (.int .u8))))] → Option (St [.slot 0 (.own (.int .u8) 5), .slot 1 (.own (.int .i64) 3), .slot 2 (.own (.pr (.arr .u8 16) (.pr (.int .i64) (.int .i64))) 35), .slot 3 (.ty .bool)]) := fun x => (loopS (fun s0 => bif decide (s0.snd < zi x.length) then bif decide (s0.snd < 21) then bif inB s0.snd x.length then x[Int.toNat s0.snd]?.bind fun y1 => bif f64 (s0.fst + zi y1.length) then bif f64 (s0.snd + 1) then some (Sum.inl (s0.fst + zi y1.length, s0.snd + 1)) else none else none else none else some (Sum.inr s0.fst) else some (Sum.inr s0.fst)) (0, 0)).bind fun y0 => bif !decide (20 < zi x.length) then bif decide (4000 < y0) then some ([], [], [], false) else (loopS (fun s1 => bif decide (s1.snd.snd.snd < zi x.length) then bif inB s1.snd.snd.snd x.length then x[Int.toNat s1.snd.snd.snd]?.bind fun y2 => (F19 y2).bind fun y3 => bif !!decide (y3.snd.snd = 0) then bif inB s1.snd.snd.snd x.length then x[Int.toNat s1.snd.snd.snd]?.bind fun y4 => (F22 (zi y4.length)).bind fun y5 => bif !!decide (zi (List.length y3.fst) = y5) then bif decide (zi (List.length y3.fst) < 26) then some (Sum.inr (Sum.inl ((), (), (), false))) else bif inB s1.snd.snd.snd x.length then x[Int.toNat s1.snd.snd.snd]?.bind fun y6 => bif roomFor (List.length s1.snd.snd.fst + [(y3.snd.fst, zi (List.length s1.fst), zi y6.length)].length) 32 then bif roomFor (List.length s1.fst + List.length y3.fst) 1 then bif roomFor (List.length s1.snd.fst + [zi (s1.fst ++ y3.fst).length].length) 8 then bif f64 (s1.snd.snd.snd + 1) then some (Sum.inl (s1.fst ++ y3.fst, s1.snd.fst ++ [zi (s1.fst ++ y3.fst).length], s1.snd.snd.fst ++ [(y3.snd.fst, zi (List.length s1.fst), zi y6.length)], s1.snd.snd.snd + 1)) else none else none else none else none else none else some (Sum.inr (Sum.inl ((), (), (), false))) else none else some (Sum.inr (Sum.inl ((), (), (), false))) else none else some (Sum.inr (Sum.inr (s1.fst, s1.snd.fst, s1.snd.snd.fst)))) ([], [], [], 0)).bind fun y1 => selim y1 (fun y2 => some ([], [], [], y2.snd.snd.snd)) (fun y2 => some (y2.fst, y2.snd.fst, y2.snd.snd, true)) else some ([], [], [], false)
noncomputable def F37 : St [.slot 0 (.ty (.int .i64)), .slot 1 (.ty (.int .i64))] → Option (St [.slot 0 (.ty (.int .i64))]) := fun x => bif decide (x.snd < 1) then some 0 else bif !decide (x.snd = 0) then (bif decide (Int.tmod x.fst x.snd < 0) then bif f64 (Int.tmod x.fst x.snd + x.snd) then some (Int.tmod x.fst x.snd + x.snd) else none else some (Int.tmod x.fst x.snd)).bind fun y0 => some y0 else none
noncomputable def F6 : St [.slot 0 (.ty (.sl (.sl (.int .u8)))), .slot 1 (.ty (.int .i64))] → Option (St [.slot 0 (.ty .bool)]) := fun x => (F5 ()).bind fun y0 => (F35 x.fst).bind fun y1 => bif !y1.snd.snd.snd then some y0 else (F34 (y1.fst, zi (List.length y1.fst), 0, 0, y1.snd.snd.fst)).bind fun y2 => bif !y2 then some false else (loopS (fun s3 => bif decide (s3 < zi (List.length x.fst)) then bif inB s3 (List.length y1.snd.snd.fst) then y1.snd.snd.fst[s3.toNat]?.bind fun y4 => (F29 (y1.fst, y4.fst, y4.snd.fst, y4.snd.snd)).bind fun y5 => bif !!decide (y5.snd = 0) then bif inB s3 (List.length x.fst) then x.fst[s3.toNat]?.bind fun y6 => (F21 (List.take y5.fst.snd.fst.length (List.drop y5.fst.fst.length (y5.fst.fst ++ (y5.fst.snd.fst ++ y5.fst.snd.snd))), y6)).bind fun y7 => bif !!y7 then bif inB s3 (List.length y1.snd.snd.fst) then y1.snd.snd.fst[s3.toNat]?.bind fun y8 => bif inB s3 (List.length x.fst) then x.fst[s3.toNat]?.bind fun y9 => (F36 y9).bind fun y10 => bif !eqT (Ty.arr IntKind.u8 16) y8.fst y10 then some (Sum.inr (Sum.inl false)) else bif f64 (s3 + 1) then some (Sum.inl (s3 + 1)) else none else none else none else some (Sum.inr (Sum.inl false)) else none else some (Sum.inr (Sum.inl false)) else none else some (Sum.inr (Sum.inr ()))) 0).bind fun y3 => selim y3 (fun y4 => some y4) fun y4 => bif f64 (zi (List.length y1.fst) + 1) then (F37 (x.snd, zi (List.length y1.fst) + 1)).bind fun y5 => (loopS (fun s6 => bif decide (s6.fst < zi (List.length y1.snd.fst)) then bif inB s6.fst (List.length y1.snd.fst) then y1.snd.fst[Int.toNat s6.fst]?.bind fun y7 => bif decide (y7 ≤ y5) then bif inB s6.fst (List.length y1.snd.fst) then y1.snd.fst[Int.toNat s6.fst]?.bind fun y8 => bif f64 (s6.fst + 1) then some (Sum.inl (s6.fst + 1, y8)) else none else none else some (Sum.inr (s6.fst, s6.snd)) else none else some (Sum.inr (s6.fst, s6.snd))) (0, 0)).bind fun y6 => (bif decide (y6.snd = y5) then some 0 else some 1).bind fun y7 => bif y0 then bif decide (y5 ≤ zi (List.length y1.fst)) && decide (0 ≤ y5) then bif decide (y6.fst ≤ zi (List.length y1.snd.snd.fst)) && decide (0 ≤ y6.fst) then (F34 (List.take (subN y5.toNat 0) (List.drop 0 y1.fst), y6.snd, 0, y7, List.take (subN (Int.toNat y6.fst) 0) (List.drop 0 y1.snd.snd.fst))).bind fun y8 => some y8 else none else none else some false else none
noncomputable def F7 : St [.slot 0 (.ty (.sl (.sl (.int .u8)))), .slot 1 (.ty (.int .i64)), .slot 2 (.ty (.int .i64)), .slot 3 (.ty (.int .u32))] → Option (St [.slot 0 (.ty .bool)]) := fun x => (F17 ()).bind fun y0 => (F35 x.fst).bind fun y1 => bif !!y1.snd.snd.snd then bif !decide (zi (List.length x.fst) = 0) then bif decide (x.snd.snd.snd = 0) then some y0 else (F37 (x.snd.fst, zi (List.length x.fst))).bind fun y2 => bif inB y2 (List.length y1.snd.snd.fst) then y1.snd.snd.fst[y2.toNat]?.bind fun y3 => bif f64 (y3.snd.fst + 6) then bif f64 (8 * (y3.snd.fst + 6)) then bif inB y2 (List.length y1.snd.snd.fst) then y1.snd.snd.fst[y2.toNat]?.bind fun y4 => bif f64 (y4.snd.snd + 20) then bif f64 (8 * (y4.snd.snd + 20)) then bif f64 (8 * (y4.snd.snd + 20) - 31) then (F37 (x.snd.snd.fst, 8 * (y4.snd.snd + 20) - 31)).bind fun y5 => bif f64 (8 * (y3.snd.fst + 6) + y5) then (loopS (fun s6 => bif decide (s6.fst < 32) then bif decide (0 ≤ s6.fst) then (bif decide ((sShr IntKind.u32 x.snd.snd.snd s6.fst).tmod 2 = 1) then bif f64 (8 * (y3.snd.fst + 6) + y5 + s6.fst) then bif f64 ((8 * (y3.snd.fst + 6) + y5 + s6.fst).tdiv 8) then bif f64 (8 * (y3.snd.fst + 6) + y5 + s6.fst) then bif f64 ((8 * (y3.snd.fst + 6) + y5 + s6.fst).tdiv 8) then bif inB ((8 * (y3.snd.fst + 6) + y5 + s6.fst).tdiv 8) (List.length s6.snd) then s6.snd[((8 * (y3.snd.fst + 6) + y5 + s6.fst).tdiv 8).toNat]?.bind fun y7 => bif f64 (8 * (y3.snd.fst + 6) + y5 + s6.fst) then bif decide (0 ≤ (8 * (y3.snd.fst + 6) + y5 + s6.fst).tmod 8) then bif inB ((8 * (y3.snd.fst + 6) + y5 + s6.fst).tdiv 8) (List.length s6.snd) then s6.snd[((8 * (y3.snd.fst + 6) + y5 + s6.fst).tdiv 8).toNat]?.bind fun y8 => some (List.set s6.snd ((8 * (y3.snd.fst + 6) + y5 + s6.fst).tdiv 8).toNat (bXor IntKind.u8 y7 (sShl IntKind.u8 1 ((8 * (y3.snd.fst + 6) + y5 + s6.fst).tmod 8)))) else none else none else none else none else none else none else none else none else some s6.snd).bind fun y7 => bif f64 (s6.fst + 1) then some (Sum.inl (s6.fst + 1, y7)) else none else none else some (Sum.inr s6.snd)) (0, y1.fst)).bind fun y6 => bif inB y2 (List.length y1.snd.snd.fst) then y1.snd.snd.fst[y2.toNat]?.bind fun y7 => (F29 (y6, y7.fst, y7.snd.fst, y7.snd.snd)).bind fun y8 => bif decide (y2 ≤ zi (List.length y1.snd.snd.fst)) && decide (0 ≤ y2) then bif roomFor (0 + (List.take (subN y2.toNat 0) (List.drop 0 y1.snd.snd.fst)).length) 32 then bif f64 (y2 + 1) then bif true && (decide (0 ≤ y2 + 1) && decide (y2 + 1 ≤ zi (List.length y1.snd.snd.fst))) then bif roomFor (([] ++ List.take (subN y2.toNat 0) (List.drop 0 y1.snd.snd.fst)).length + (List.take (subN (List.length y1.snd.snd.fst) (y2 + 1).toNat) (List.drop (y2 + 1).toNat y1.snd.snd.fst)).length) 32 then bif y0 then bif decide (y8.snd = 11) then (F34 (y6, zi y6.length, 1, 0, [] ++ List.take (subN y2.toNat 0) (List.drop 0 y1.snd.snd.fst) ++ List.take (subN (List.length y1.snd.snd.fst) (y2 + 1).toNat) (List.drop (y2 + 1).toNat y1.snd.snd.fst))).bind fun y9 => some y9 else some false else some false else none else none else none else none else none else none else none else none else none else none else none else none else none else none else some y0 else some y0
noncomputable def F8 : St [.slot 0 (.ty (.sl (.sl (.int .u8)))), .slot 1 (.ty (.int .i64)), .slot 2 (.ty (.int .i64))] → Option (St [.slot 0 (.ty .bool)]) := fun x => (F17 ()).bind fun y0 => (F35 x.fst).bind fun y1 => bif !!y1.snd.snd.snd then bif decide (zi (List.length x.fst) = 0) then some y0 else (F37 (x.snd.fst, zi (List.length x.fst))).bind fun y2 => (F37 (x.snd.snd, 48)).bind fun y3 => bif inB y2 (List.length y1.snd.snd.fst) then y1.snd.snd.fst[y2.toNat]?.bind fun y4 => bif f64 (y3.tdiv 8) then bif f64 (y4.snd.fst + y3.tdiv 8) then bif f64 (y3.tdiv 8) then bif f64 (y4.snd.fst + y3.tdiv 8) then bif inB (y4.snd.fst + y3.tdiv 8) (List.length y1.fst) then y1.fst[(y4.snd.fst + y3.tdiv 8).toNat]?.bind fun y5 => bif decide (0 ≤ y3.tmod 8) then bif inB (y4.snd.fst + y3.tdiv 8) (List.length y1.fst) then y1.fst[(y4.snd.fst + y3.tdiv 8).toNat]?.bind fun y6 => bif inB y2 (List.length y1.snd.snd.fst) then y1.snd.snd.fst[y2.toNat]?.bind fun y7 => (F29 (List.set y1.fst (y4.snd.fst + y3.tdiv 8).toNat (bXor IntKind.u8 y5 (sShl IntKind.u8 1 (y3.tmod 8))), y7.fst, y7.snd.fst, y7.snd.snd)).bind fun y8 => bif y0 then bif decide (y8.snd = 6) then bif decide (y2 ≤ zi (List.length y1.snd.snd.fst)) && decide (0 ≤ y2) then (F34 (List.set y1.fst (y4.snd.fst + y3.tdiv 8).toNat (bXor IntKind.u8 y5 (sShl IntKind.u8 1 (y3.tmod 8))), y4.snd.fst, 0, 2, List.take (subN y2.toNat 0) (List.drop 0 y1.snd.snd.fst))).bind fun y9 => some y9 else none else some false else some false else none else none else none else none else none else none else none else none else none else some y0
noncomputable def F9 : St [.slot 0 (.ty (.sl (.int .u8)))] → Option (St [.slot 0 (.ty .bool)]) := fun x => (F17 ()).bind fun y0 => bif decide (6000 < zi x.length) then some y0 else (F26 x).bind fun y1 => (loopS (fun s2 => bif decide (s2.snd < zi (List.length y1.fst)) then bif inB s2.snd (List.length y1.fst) then y1.fst[Int.toNat s2.snd]?.bind fun y3 => (F29 (x, y3.fst, y3.snd.fst, y3.snd.snd)).bind fun y4 => bif !!decide (y4.snd = 0) then bif inB s2.snd (List.length y1.fst) then y1.fst[Int.toNat s2.snd]?.bind fun y5 => bif !!decide (zi y4.fst.snd.fst.length = y5.snd.snd) then (F36 (List.take y4.fst.snd.fst.length (List.drop y4.fst.fst.length (y4.fst.fst ++ (y4.fst.snd.fst ++ y4.fst.snd.snd))))).bind fun y6 => bif inB s2.snd (List.length y1.fst) then y1.fst[Int.toNat s2.snd]?.bind fun y7 => bif !!eqT (Ty.arr IntKind.u8 16) y6 y7.fst then bif inB s2.snd (List.length y1.fst) then y1.fst[Int.toNat s2.snd]?.bind fun y8 => bif decide (y8.snd.fst < s2.fst) then some (Sum.inr (Sum.inl false)) else bif inB s2.snd (List.length y1.fst) then y1.fst[Int.toNat s2.snd]?.bind fun y9 => bif inB s2.snd (List.length y1.fst) then y1.fst[Int.toNat s2.snd]?.bind fun y10 => (F22 y10.snd.snd).bind fun y11 => bif f64 (y9.snd.fst + y11) then bif f64 (s2.snd + 1) then some (Sum.inl (y9.snd.fst + y11, s2.snd + 1)) else none else none else none else none else none else some (Sum.inr (Sum.inl false)) else none else some (Sum.inr (Sum.inl false)) else none else some (Sum.inr (Sum.inl false)) else none else some (Sum.inr (Sum.inr s2.fst))) (0, 0)).bind fun y2 => selim y2 (fun y3 => some y3) fun y3 => bif y0 then bif decide (y3 ≤ y1.snd.fst) then bif decide (y1.snd.fst ≤ zi x.length) then bif decide (0 ≤ y1.snd.snd.fst) then bif decide (y1.snd.snd.snd = 0) == decide (y1.snd.fst = zi x.length) then bif decide (0 ≤ y1.snd.snd.snd) then some (decide (y1.snd.snd.snd ≤ 2)) else some false else some false else some false else some false else some false else some false
noncomputable def F24F : St [.slot 0 (.wnd (.int .u8) 5 true)] → Option (St []) := fun x => bif decide (zi (x.fst ++ (x.snd.fst ++ x.snd.snd)).length - zi x.fst.length ≤ zi ((x.fst ++ (x.snd.fst ++ x.snd.snd)).length - x.fst.length)) && decide (0 ≤ zi (x.fst ++ (x.snd.fst ++ x.snd.snd)).length - zi x.fst.length) then (loopS (fun s0 => bif decide (s0.fst < zi (subN (zi (x.fst ++ (x.snd.fst ++ x.snd.snd)).length - zi x.fst.length).toNat 0)) then bif inB s0.fst (subN (zi (x.fst ++ (x.snd.fst ++ x.snd.snd)).length - zi x.fst.length).toNat 0) then s0.snd[x.fst.length + 0 + Int.toNat s0.fst]?.bind fun y1 => bif inB s0.fst (subN (zi (x.fst ++ (x.snd.fst ++ x.snd.snd)).length - zi x.fst.length).toNat 0) then s0.snd[x.fst.length + 0 + Int.toNat s0.fst]?.bind fun y2 => bif f64 (s0.fst + 1) then some (Sum.inl (s0.fst + 1, List.set s0.snd (x.fst.length + 0 + Int.toNat s0.fst) (bXor IntKind.u8 y1 90))) else none else none else none else some (Sum.inr s0.snd)) (0, x.fst ++ (x.snd.fst ++ x.snd.snd))).bind fun y0 => some () else none
end Go.Sat
end
section
namespace Go.Sat
open Go Go.Proofs
set_option maxRecDepth 100000
theorem mixedTry : Try.prog.follows .mixedOrders = true := by kernel_rfl
noncomputable def S145 : FnSpec := spec Try.f145 [] [.agg 0 (.ty (.arr .u32 256))] F145
theorem K145 : FnOk Try.prog 145 S145 := fn_known (tbl := []) mixedTry .nil (.node .nil (.node .nil (.node (.node .nil (.node (.loop [.slot 5 (.ty (.int .i64)), .blk 1 177 (.ty (.arr .u32 256))] [(.ext 0, [.blk 1 177 (.ty (.arr .u32 256))])] [] (.node .nil (.node .nil (.node (.node (.node .nil (.node .nil (.node (.node .nil (.node (.loop [.slot 3 (.ty (.int .u32)), .slot 10 (.ty (.int .i64))] [(.ext 2, [.slot 3 (.ty (.int .u32))])] [] (.node .nil (.node .nil (.node (.node (.node .nil (.node .nil (.node .nil (.cut [(.norm, [.slot 3 (.ty (.int .u32))])] [] .nil)))) .nil) .nil)))) .nil)) .nil))) .nil) .nil)))) .nil)) .nil))) Try.func145 rfl rfl (by kernel_rfl)
noncomputable def S130 : FnSpec := spec Try.f130 [.slot 0 (.ty (.int .u32)), .slot 1 (.ty (.sl (.int .u8)))] [.slot 0 (.ty (.int .u32))] F130
theorem K130 : FnOk Try.prog 130 S130 := fn_known (tbl := [(145, S145)]) mixedTry (.cons K145 .nil) (.node .nil (.node .nil (.node (.node .nil (.node (.loop [.slot 6 (.ty (.int .u32)), .slot 14 (.ty (.int .i64))] [(.ext 0, [.slot 6 (.ty (.int .u32))])] [] .nil) .nil)) .nil))) Try.func130 rfl rfl (by kernel_rfl)
noncomputable def S105 : FnSpec := spec Try.f105 [.slot 0 (.ty (.sl (.int .u8)))] [.slot 0 (.ty (.int .u32))] F105
theorem K105 : FnOk Try.prog 105 S105 := fn_known (tbl := [(130, S130)]) mixedTry (.cons K130 .nil) .nil Try.func105 rfl rfl (by kernel_rfl)
noncomputable def S63 : FnSpec := spec Try.f63 [.slot 0 (.ty (.int .i64))] [.agg 0 (.ty (.arr .u8 6))] F63
theorem K63 : FnOk Try.prog 63 S63 := fn_known (tbl := [(105, S105)]) mixedTry (.cons K105 .nil) .nil Try.func63 rfl rfl (by kernel_rfl)
noncomputable def S133 : FnSpec := spec Try.f133 [] [.agg 0 (.ty (.arr .u32 8))] F133
theorem K133 : FnOk Try.prog 133 S133 := fn_known (tbl := []) mixedTry .nil .nil Try.func133 rfl rfl (by kernel_rfl)
noncomputable def S110 : FnSpec := spec Try.f110 [] [.slot 0 (.ptr 167 (.pr (.ty .bool) (.pr (.ty (.arr .u32 8)) (.pr (.ty (.arr .u8 64)) (.ty (.int .i64))))))] F110
theorem K110 : FnOk Try.prog 110 S110 := fn_known (tbl := [(133, S133)]) mixedTry (.cons K133 .nil) .nil Try.func110 rfl rfl (by kernel_rfl)
noncomputable def S152 : FnSpec := spec Try.f152 [.slot 0 (.ty (.int .u32)), .slot 1 (.ty (.int .i64))] [.slot 0 (.ty (.int .u32))] F152
theorem K152 : FnOk Try.prog 152 S152 := fn_known (tbl := []) mixedTry .nil .nil Try.func152 rfl rfl (by kernel_rfl)
noncomputable def S151 : FnSpec := spec Try.f151 [.slot 0 (.ty (.int .u32)), .slot 1 (.ty (.int .i64))] [.slot 0 (.ty (.int .u32))] F151
theorem K151 : FnOk Try.prog 151 S151 := fn_known (tbl := [(152, S152)]) mixedTry (.cons K152 .nil) .nil Try.func151 rfl rfl (by kernel_rfl)
noncomputable def S149 : FnSpec := spec Try.f149 [.slot 0 (.ty (.sl (.int .u8)))] [.agg 0 (.ty (.arr .u32 64))] F149
theorem K149 : FnOk Try.prog 149 S149 := fn_known (tbl := [(151, S151)]) mixedTry (.cons K151 .nil) (.node .nil (.node .nil (.node (.node .nil (.node (.loop [.slot 10 (.ty (.int .i64)), .blk 2 179 (.ty (.arr .u32 64))] [(.ext 0, [.blk 2 179 (.ty (.arr .u32 64))])] [] .nil) .nil)) (.node (.node .nil (.node (.loop [.slot 5 (.ty (.int .i64)), .blk 2 179 (.ty (.arr .u32 64))] [(.ext 2, [.blk 2 179 (.ty (.arr .u32 64))])] [] .nil) .nil)) .nil)))) Try.func149 rfl rfl (by kernel_rfl)
noncomputable def S150 : FnSpec := spec Try.f150 [] [.agg 0 (.ty (.arr .u32 64))] F150
theorem K150 : FnOk Try.prog 150 S150 := fn_known (tbl := []) mixedTry .nil .nil Try.func150 rfl rfl (by kernel_rfl)
noncomputable def S134 : FnSpec := spec Try.f134 [.agg 0 (.ty (.arr .u32 8)), .slot 1 (.ty (.sl (.int .u8)))] [.agg 0 (.ty (.arr .u32 8))] F134
theorem K134 : FnOk Try.prog 134 S134 := fn_known (tbl := [(149, S149), (150, S150), (151, S151)]) mixedTry (.cons K149 (.cons K150 (.cons K151 .nil))) (.node .nil (.node .nil (.node .nil (.node (.node .nil (.node (.loop [.slot 18 (.ty (.int .i64)), .blk 5 163 (.ty (.arr .u32 8))] [(.ext 0, [.blk 5 163 (.ty (.arr .u32 8))])] [] .nil) .nil)) (.node (.node .nil (.node (.loop [.slot 98 (.ty (.int .i64)), .blk 5 163 (.ty (.arr .u32 8))] [(.ext 2, [.blk 5 163 (.ty (.arr .u32 8))])] [] .nil) .nil)) .nil))))) Try.func134 rfl rfl (by kernel_rfl)
noncomputable def S111 : FnSpec := spec Try.f111 [.slot 0 (.ptr 167 (.pr (.ty .bool) (.pr (.ty (.arr .u32 8)) (.pr (.ty (.arr .u8 64)) (.ty (.int .i64)))))), .slot 1 (.ty (.sl (.int .u8)))] [.blk 0 167 (.pr (.ty .bool) (.pr (.ty (.arr .u32 8)) (.pr (.ty (.arr .u8 64)) (.ty (.int .i64)))))] F111
theorem K111 : FnOk Try.prog 111 S111 := fn_known (tbl := [(134, S134)]) mixedTry (.cons K134 .nil) (.node .nil (.node (.loop [.slot 1 (.ty (.sl (.int .u8))), .blk 0 167 (.pr (.ty .bool) (.pr (.ty (.arr .u32 8)) (.pr (.ty (.arr .u8 64)) (.ty (.int .i64)))))] [(.ext 0, [.blk 0 167 (.pr (.ty .bool) (.pr (.ty (.arr .u32 8)) (.pr (.ty (.arr .u8 64)) (.ty (.int .i64)))))])] [] (.node .nil (.node (.node .nil (.node .nil (.node .nil (.node .nil (.node .nil (.cut [(.norm, [.blk 0 167 (.pr (.ty .bool) (.pr (.ty (.arr .u32 8)) (.pr (.ty (.arr .u8 64)) (.ty (.int .i64)))))])] [] .nil)))))) .nil))) .nil)) Try.func111 rfl rfl (by kernel_rfl)
end Go.Sat
end
section
namespace Go.Sat
open Go Go.Proofs
set_option maxRecDepth 100000
noncomputable def S112 : FnSpec := spec Try.f112 [.slot 0 (.ptr 167 (.pr (.ty .bool) (.pr (.ty (.arr .u32 8)) (.pr (.ty (.arr .u8 64)) (.ty (.int .i64))))))] [.agg 0 (.ty (.arr .u8 32)), .blk 0 167 (.pr (.ty .bool) (.pr (.ty (.arr .u32 8)) (.pr (.ty (.arr .u8 64)) (.ty (.int .i64)))))] F112
theorem K112 : FnOk Try.prog 112 S112 := fn_known (tbl := [(111, S111)]) mixedTry (.cons K111 .nil) (.node .nil (.node .nil (.node .nil (.node .nil (.node .nil (.node .nil (.node (.node .nil (.node (.loop [.slot 5 (.own (.int .u8) 5), .slot 6 (.ty (.int .i64))] [(.ext 0, [.slot 5 (.own (.int .u8) 5)])] [4] .nil) .nil)) (.node .nil (.node (.node .nil (.node (.loop [.slot 52 (.ty (.int .i64)), .blk 2 102 (.ty (.arr .u8 32))] [(.ext 2, [.blk 2 102 (.ty (.arr .u8 32))])] [] .nil) .nil)) .nil))))))))) Try.func112 rfl rfl (by kernel_rfl)
noncomputable def S74 : FnSpec := spec Try.f74 [.slot 0 (.ty (.sl (.int .u8)))] [.agg 0 (.ty (.arr .u8 32))] F74
theorem K74 : FnOk Try.prog 74 S74 := fn_known (tbl := [(110, S110), (111, S111), (112, S112)]) mixedTry (.cons K110 (.cons K111 (.cons K112 .nil))) .nil Try.func74 rfl rfl (by kernel_rfl)
noncomputable def S36 : FnSpec := spec Try.f36 [.slot 0 (.ty (.sl (.int .u8)))] [.agg 0 (.ty (.arr .u8 16))] F36
theorem K36 : FnOk Try.prog 36 S36 := fn_known (tbl := [(74, S74)]) mixedTry (.cons K74 .nil) .nil Try.func36 rfl rfl (by kernel_rfl)
noncomputable def S106 : FnSpec := spec Try.f106 [.slot 0 (.nils), .slot 1 (.ty (.int .i64))] [.slot 0 (.own (.int .u8) 5)] F106
theorem K106 : FnOk Try.prog 106 S106 := fn_known (tbl := []) mixedTry .nil (.node .nil (.node .nil (.node (.node .nil (.node .nil (.cut [(.norm, [.slot 0 (.own (.int .u8) 5)])] [] .nil))) .nil))) Try.func106 rfl rfl (by kernel_rfl)
noncomputable def S64 : FnSpec := spec Try.f64 [.slot 0 (.ty (.sl (.sl (.int .u8))))] [.slot 0 (.own (.int .u8) 5)] F64
theorem K64 : FnOk Try.prog 64 S64 := fn_known (tbl := [(106, S106)]) mixedTry (.cons K106 .nil) (.node .nil (.node .nil (.node (.node .nil (.node (.loop [.slot 3 (.ty (.int .i64)), .slot 11 (.ty (.int .i64))] [(.ext 0, [.slot 3 (.ty (.int .i64))])] [] .nil) .nil)) (.node .nil (.node (.node .nil (.node (.loop [.slot 6 (.own (.int .u8) 5), .slot 27 (.ty (.int .i64))] [(.ext 2, [.slot 6 (.own (.int .u8) 5)])] [1] .nil) .nil)) .nil))))) Try.func64 rfl rfl (by kernel_rfl)
noncomputable def S65 : FnSpec := spec Try.f65 [.slot 0 (.ty (.sl (.int .u8)))] [.slot 0 (.own (.int .u8) 5)] F65
theorem K65 : FnOk Try.prog 65 S65 := fn_known (tbl := [(105, S105), (64, S64)]) mixedTry (.cons K105 (.cons K64 .nil)) .nil Try.func65 rfl rfl (by kernel_rfl)
noncomputable def S19 : FnSpec := spec Try.f19 [.slot 0 (.ty (.sl (.int .u8)))] [.slot 0 (.own (.int .u8) 5), .agg 1 (.ty (.arr .u8 16)), .slot 2 (.ty (.int .i64))] F19
theorem K19 : FnOk Try.prog 19 S19 := fn_known (tbl := [(63, S63), (36, S36), (64, S64), (65, S65)]) mixedTry (.cons K63 (.cons K36 (.cons K64 (.cons K65 .nil)))) .nil Try.func19 rfl rfl (by kernel_rfl)
noncomputable def S31 : FnSpec := spec Try.f31 [] [.slot 0 (.own (.int .u8) 5)] F31
theorem K31 : FnOk Try.prog 31 S31 := fn_known (tbl := [(19, S19)]) mixedTry (.cons K19 .nil) .nil Try.func31 rfl rfl (by kernel_rfl)
noncomputable def S33 : FnSpec := spec Try.f33 [.slot 0 (.ty (.int .i64))] [.agg 0 (.pr (.ty (.arr .u8 16)) (.pr (.ty (.int .i64)) (.ty (.int .i64))))] F33
theorem K33 : FnOk Try.prog 33 S33 := fn_known (tbl := [(36, S36)]) mixedTry (.cons K36 .nil) .nil Try.func33 rfl rfl (by kernel_rfl)
noncomputable def S22 : FnSpec := spec Try.f22 [.slot 0 (.ty (.int .i64))] [.slot 0 (.ty (.int .i64))] F22
theorem K22 : FnOk Try.prog 22 S22 := fn_known (tbl := []) mixedTry .nil .nil Try.func22 rfl rfl (by kernel_rfl)
noncomputable def S72 : FnSpec := spec Try.f72 [.slot 0 (.ty (.sl (.int .u8))), .slot 1 (.ty (.int .i64))] [.slot 0 (.ty (.int .i64)), .slot 1 (.ty .bool)] F72
theorem K72 : FnOk Try.prog 72 S72 := fn_known (tbl := [(22, S22), (63, S63)]) mixedTry (.cons K22 (.cons K63 .nil)) .nil Try.func72 rfl rfl (by kernel_rfl)
noncomputable def S116 : FnSpec := spec Try.f116 [.slot 0 (.ty (.sl (.int .u8))), .slot 1 (.ty (.sl (.int .u8)))] [.slot 0 (.ty .bool)] F116
theorem K116 : FnOk Try.prog 116 S116 := fn_known (tbl := []) mixedTry .nil (.node .nil (.node .nil (.node (.node .nil (.node (.loop [.slot 13 (.ty (.int .i64))] [(.ret, [.slot 4 (.ty .bool)]), (.ext 0, [])] [] .nil) .nil)) .nil))) Try.func116 rfl rfl (by kernel_rfl)
end Go.Sat
end
section
namespace Go.Sat
open Go Go.Proofs
set_option maxRecDepth 100000
noncomputable def S117 : FnSpec := spec Try.f117 [.slot 0 (.ty (.sl (.int .u8)))] [.slot 0 (.own (.int .u8) 5)] F117
theorem K117 : FnOk Try.prog 117 S117 := fn_known (tbl := []) mixedTry .nil .nil Try.func117 rfl rfl (by kernel_rfl)
noncomputable def S81 : FnSpec := spec Try.f81 [.slot 0 (.ty (.sl (.int .u8)))] [.slot 0 (.own (.int .u8) 5), .slot 1 (.ty (.int .i64))] F81
theorem K81 : FnOk Try.prog 81 S81 := fn_known (tbl := [(65, S65), (116, S116), (117, S117)]) mixedTry (.cons K65 (.cons K116 (.cons K117 .nil))) .nil Try.func81 rfl rfl (by kernel_rfl)
noncomputable def S73 : FnSpec := spec Try.f73 [.slot 0 (.ty (.sl (.int .u8))), .slot 1 (.ty (.int .i64)), .slot 2 (.ty (.int .i64))] [.agg 0 (.ty (.arr .u8 16)), .slot 1 (.wnd (.int .u8) 5 false), .slot 2 (.ty .bool)] F73
theorem K73 : FnOk Try.prog 73 S73 := fn_known (tbl := [(22, S22), (81, S81), (36, S36)]) mixedTry (.cons K22 (.cons K81 (.cons K36 .nil))) .nil Try.func73 rfl rfl (by kernel_rfl)
noncomputable def S29 : FnSpec := spec Try.f29 [.slot 0 (.ty (.sl (.int .u8))), .agg 1 (.pr (.ty (.arr .u8 16)) (.pr (.ty (.int .i64)) (.ty (.int .i64))))] [.slot 0 (.wnd (.int .u8) 5 false), .slot 1 (.ty (.int .i64))] F29
theorem K29 : FnOk Try.prog 29 S29 := fn_known (tbl := [(72, S72), (22, S22), (73, S73)]) mixedTry (.cons K72 (.cons K22 (.cons K73 .nil))) .nil Try.func29 rfl rfl (by kernel_rfl)
noncomputable def S21 : FnSpec := spec Try.f21 [.slot 0 (.ty (.sl (.int .u8))), .slot 1 (.ty (.sl (.int .u8)))] [.slot 0 (.ty .bool)] F21
theorem K21 : FnOk Try.prog 21 S21 := fn_known (tbl := []) mixedTry .nil .nil Try.func21 rfl rfl (by kernel_rfl)
noncomputable def S32 : FnSpec := spec Try.f32 [.slot 0 (.ty (.sl (.int .u8)))] [.slot 0 (.own (.int .u8) 5)] F32
theorem K32 : FnOk Try.prog 32 S32 := fn_known (tbl := []) mixedTry .nil .nil Try.func32 rfl rfl (by kernel_rfl)
noncomputable def S69 : FnSpec := spec Try.f69 [.slot 0 (.ty (.sl (.int .u8)))] [.slot 0 (.fn 109 (.unit) (.ptr 22 (.ty (.sl (.int .u8)))))] F69
theorem K69 : FnOk Try.prog 69 S69 := fn_known (tbl := []) mixedTry .nil .nil Try.func69 rfl rfl (by kernel_rfl)
noncomputable def S26 : FnSpec := spec Try.f26 [.slot 0 (.ty (.sl (.int .u8)))] [.slot 0 (.own (.pr (.arr .u8 16) (.pr (.int .i64) (.int .i64))) 35), .slot 1 (.ty (.int .i64)), .slot 2 (.ty (.int .i64)), .slot 3 (.ty (.int .i64))] F26
theorem K26 : FnOk Try.prog 26 S26 := fn_known (tbl := [(69, S69), (72, S72), (22, S22), (73, S73)]) mixedTry (.cons K69 (.cons K72 (.cons K22 (.cons K73 .nil)))) (.node .nil (.node (.node .nil (.node (.rng (.node .nil (.node .nil (.node (.loop [.slot 3 (.ty (.int .i64)), .blk 1 36 (.own (.pr (.arr .u8 16) (.pr (.int .i64) (.int .i64))) 35), .blk 3 3 (.ty (.int .i64)), .blk 4 3 (.ty (.int .i64)), .blk 2 3 (.ty (.int .i64))] [(.ext 0, [.blk 4 3 (.ty (.int .i64)), .blk 2 3 (.ty (.int .i64)), .blk 1 36 (.own (.pr (.arr .u8 16) (.pr (.int .i64) (.int .i64))) 35), .blk 3 3 (.ty (.int .i64))])] [] (.node (.node .nil (.node .nil (.node (.node (.node .nil (.cut [(.norm, [.slot 3 (.ty (.int .i64)), .slot 6 (.ty (.int .i64)), .blk 1 36 (.own (.pr (.arr .u8 16) (.pr (.int .i64) (.int .i64))) 35), .blk 3 3 (.ty (.int .i64))]), (.ext 1, [.slot 3 (.ty (.int .i64)), .blk 1 36 (.own (.pr (.arr .u8 16) (.pr (.int .i64) (.int .i64))) 35), .blk 3 3 (.ty (.int .i64))])] [8] (.node .nil (.node (.node .nil (.cut [(.norm, [.slot 21 (.ty .bool)])] [] .nil)) (.cut [(.norm, [.slot 3 (.ty (.int .i64)), .slot 6 (.ty (.int .i64)), .blk 1 36 (.own (.pr (.arr .u8 16) (.pr (.int .i64) (.int .i64))) 35), .blk 3 3 (.ty (.int .i64))]), (.ext 1, [.slot 3 (.ty (.int .i64)), .blk 1 36 (.own (.pr (.arr .u8 16) (.pr (.int .i64) (.int .i64))) 35), .blk 3 3 (.ty (.int .i64))])] [8] .nil))))) .nil) .nil))) .nil)) .nil))) .nil (.node (.node (.node .nil (.node .nil (.node .nil (.cut [(.norm, [.blk 1 36 (.own (.pr (.arr .u8 16) (.pr (.int .i64) (.int .i64))) 35), .blk 3 3 (.ty (.int .i64))])] [8] .nil)))) .nil) .nil)) .nil)) .nil)) Try.func26 rfl rfl (by kernel_rfl)
noncomputable def S28 : FnSpec := spec Try.f28 [.slot 0 (.ty (.sl (.pr (.arr .u8 16) (.pr (.int .i64) (.int .i64))))), .slot 1 (.ty (.sl (.pr (.arr .u8 16) (.pr (.int .i64) (.int .i64)))))] [.slot 0 (.ty .bool)] F28
theorem K28 : FnOk Try.prog 28 S28 := fn_known (tbl := []) mixedTry .nil (.node .nil (.node .nil (.node (.node .nil (.node (.loop [.slot 5 (.ty (.int .i64))] [(.ret, [.slot 4 (.ty .bool)]), (.ext 0, [])] [] .nil) .nil)) .nil))) Try.func28 rfl rfl (by kernel_rfl)
noncomputable def S34 : FnSpec := spec Try.f34 [.slot 0 (.ty (.sl (.int .u8))), .slot 1 (.ty (.int .i64)), .slot 2 (.ty (.int .i64)), .slot 3 (.ty (.int .i64)), .slot 4 (.ty (.sl (.pr (.arr .u8 16) (.pr (.int .i64) (.int .i64)))))] [.slot 0 (.ty .bool)] F34
theorem K34 : FnOk Try.prog 34 S34 := fn_known (tbl := [(26, S26), (28, S28)]) mixedTry (.cons K26 (.cons K28 .nil)) .nil Try.func34 rfl rfl (by kernel_rfl)
noncomputable def S17 : FnSpec := spec Try.f17 [] [.slot 0 (.ty .bool)] F17
theorem K17 : FnOk Try.prog 17 S17 := fn_known (tbl := [(31, S31), (33, S33), (29, S29), (21, S21), (32, S32), (34, S34)]) mixedTry (.cons K31 (.cons K33 (.cons K29 (.cons K21 (.cons K32 (.cons K34 .nil)))))) .nil Try.func17 rfl rfl (by kernel_rfl)
noncomputable def S18 : FnSpec := spec Try.f18 [.slot 0 (.ty (.sl (.int .u8)))] [.slot 0 (.wnd (.int .u8) 5 true)] F18
theorem K18 : FnOk Try.prog 18 S18 := fn_known (tbl := []) mixedTry .nil (.node .nil (.node .nil (.node .nil (.node (.node .nil (.node (.loop [.slot 4 (.ty (.int .i64)), .rowf 1 (.int .u8) 5] [(.ext 0, [.rowf 1 (.int .u8) 5])] [] .nil) .nil)) .nil)))) Try.func18 rfl rfl (by kernel_rfl)
end Go.Sat
end
section
namespace Go.Sat
open Go Go.Proofs
set_option maxRecDepth 100000
noncomputable def S131 : FnSpec := spec Try.f131 [.slot 0 (.ty (.sl (.int .u8)))] [.slot 0 (.own (.int .u8) 5)] F131
theorem K131 : FnOk Try.prog 131 S131 := fn_known (tbl := []) mixedTry .nil (.node .nil (.node .nil (.node .nil (.node (.node (.loop [.slot 3 (.own (.int .u8) 5)] [(.ext 0, [.slot 3 (.own (.int .u8) 5)])] [4] .nil) .nil) (.node .nil (.node (.node .nil (.node (.loop [.slot 3 (.own (.int .u8) 5), .slot 5 (.ty (.int .i64))] [(.ext 2, [.slot 3 (.own (.int .u8) 5)])] [5] .nil) .nil)) .nil)))))) Try.func131 rfl rfl (by kernel_rfl)
noncomputable def S148 : FnSpec := spec Try.f148 [.slot 0 (.ty (.int .u32)), .slot 1 (.ty (.int .i64))] [.slot 0 (.ty (.int .u32))] F148
theorem K148 : FnOk Try.prog 148 S148 := fn_known (tbl := []) mixedTry .nil .nil Try.func148 rfl rfl (by kernel_rfl)
noncomputable def S146 : FnSpec := spec Try.f146 [.slot 0 (.ty (.sl (.int .u8)))] [.agg 0 (.ty (.arr .u32 64))] F146
theorem K146 : FnOk Try.prog 146 S146 := fn_known (tbl := [(148, S148)]) mixedTry (.cons K148 .nil) (.node .nil (.node .nil (.node (.node .nil (.node (.loop [.slot 4 (.ty (.int .i64)), .blk 2 179 (.ty (.arr .u32 64))] [(.ext 0, [.blk 2 179 (.ty (.arr .u32 64))])] [] .nil) .nil)) (.node (.node .nil (.node (.loop [.slot 5 (.ty (.int .i64)), .blk 2 179 (.ty (.arr .u32 64))] [(.ext 2, [.blk 2 179 (.ty (.arr .u32 64))])] [] .nil) .nil)) .nil)))) Try.func146 rfl rfl (by kernel_rfl)
noncomputable def S147 : FnSpec := spec Try.f147 [] [.agg 0 (.ty (.arr .u32 64))] F147
theorem K147 : FnOk Try.prog 147 S147 := fn_known (tbl := []) mixedTry .nil .nil Try.func147 rfl rfl (by kernel_rfl)
noncomputable def S132 : FnSpec := spec Try.f132 [.agg 0 (.ty (.arr .u32 8)), .slot 1 (.ty (.sl (.int .u8)))] [.agg 0 (.ty (.arr .u32 8))] F132
theorem K132 : FnOk Try.prog 132 S132 := fn_known (tbl := [(146, S146), (147, S147), (148, S148)]) mixedTry (.cons K146 (.cons K147 (.cons K148 .nil))) (.node .nil (.node .nil (.node .nil (.node (.node .nil (.node (.loop [.slot 8 (.ty (.int .i64)), .blk 5 161 (.ty (.arr .u32 8))] [(.ext 0, [.blk 5 161 (.ty (.arr .u32 8))])] [] .nil) .nil)) (.node (.node .nil (.node (.loop [.slot 11 (.ty (.int .i64)), .blk 1 161 (.ty (.arr .u32 8))] [(.ext 2, [.blk 1 161 (.ty (.arr .u32 8))])] [] .nil) .nil)) .nil))))) Try.func132 rfl rfl (by kernel_rfl)
noncomputable def S107 : FnSpec := spec Try.f107 [.slot 0 (.ty (.sl (.int .u8)))] [.agg 0 (.ty (.arr .u8 32))] F107
theorem K107 : FnOk Try.prog 107 S107 := fn_known (tbl := [(131, S131), (132, S132)]) mixedTry (.cons K131 (.cons K132 .nil)) (.node .nil (.node .nil (.node .nil (.node (.node .nil (.node (.loop [.slot 5 (.ty (.int .i64)), .blk 2 161 (.ty (.arr .u32 8))] [(.ext 0, [.blk 2 161 (.ty (.arr .u32 8))])] [] .nil) .nil)) (.node .nil (.node (.node .nil (.node (.loop [.slot 7 (.ty (.int .i64)), .blk 4 102 (.ty (.arr .u8 32))] [(.ext 2, [.blk 4 102 (.ty (.arr .u8 32))])] [] .nil) .nil)) .nil)))))) Try.func107 rfl rfl (by kernel_rfl)
noncomputable def S66 : FnSpec := spec Try.f66 [.slot 0 (.ty (.sl (.int .u8)))] [.agg 0 (.ty (.arr .u8 16))] F66
theorem K66 : FnOk Try.prog 66 S66 := fn_known (tbl := [(107, S107)]) mixedTry (.cons K107 .nil) (.node .nil (.node .nil (.node .nil (.node (.node .nil (.node (.loop [.slot 5 (.ty (.int .i64)), .blk 2 26 (.ty (.arr .u8 16))] [(.ext 0, [.blk 2 26 (.ty (.arr .u8 16))])] [] .nil) .nil)) .nil)))) Try.func66 rfl rfl (by kernel_rfl)
noncomputable def S108 : FnSpec := spec Try.f108 [.slot 0 (.ty (.sl (.int .u8)))] [.slot 0 (.ty (.int .u32))] F108
theorem K108 : FnOk Try.prog 108 S108 := fn_known (tbl := []) mixedTry .nil (.node .nil (.node .nil (.node (.node .nil (.node (.loop [.slot 3 (.ty (.int .u32)), .slot 4 (.ty (.int .i64))] [(.ext 0, [.slot 3 (.ty (.int .u32))])] [] (.node .nil (.node (.node (.node .nil (.node (.loop [.slot 3 (.ty (.int .u32)), .slot 5 (.ty (.int .i64))] [(.ext 2, [.slot 3 (.ty (.int .u32))])] [] (.node .nil (.node (.node (.node .nil (.node .nil (.node .nil (.cut [(.norm, [.slot 3 (.ty (.int .u32))])] [] .nil)))) .nil) .nil))) .nil)) .nil) .nil))) .nil)) .nil))) Try.func108 rfl rfl (by kernel_rfl)
noncomputable def S67 : FnSpec := spec Try.f67 [.slot 0 (.ty (.int .i64))] [.slot 0 (.own (.int .u8) 5)] F67
theorem K67 : FnOk Try.prog 67 S67 := fn_known (tbl := [(108, S108)]) mixedTry (.cons K108 .nil) .nil Try.func67 rfl rfl (by kernel_rfl)
noncomputable def S68 : FnSpec := spec Try.f68 [.slot 0 (.ty (.sl (.int .u8)))] [.slot 0 (.own (.int .u8) 5)] F68
theorem K68 : FnOk Try.prog 68 S68 := fn_known (tbl := [(108, S108)]) mixedTry (.cons K108 .nil) .nil Try.func68 rfl rfl (by kernel_rfl)
noncomputable def S20 : FnSpec := spec Try.f20 [.slot 0 (.ty (.sl (.int .u8)))] [.slot 0 (.own (.int .u8) 5), .agg 1 (.ty (.arr .u8 16)), .slot 2 (.ty (.int .i64))] F20
theorem K20 : FnOk Try.prog 20 S20 := fn_known (tbl := [(66, S66), (67, S67), (68, S68)]) mixedTry (.cons K66 (.cons K67 (.cons K68 .nil))) .nil Try.func20 rfl rfl (by kernel_rfl)
noncomputable def S23 : FnSpec := spec Try.f23 [.slot 0 (.ty (.int .i64))] [.slot 0 (.ty (.int .i64))] F23
theorem K23 : FnOk Try.prog 23 S23 := fn_known (tbl := []) mixedTry .nil .nil Try.func23 rfl rfl (by kernel_rfl)
end Go.Sat
end
section
namespace Go.Sat
open Go Go.Proofs
set_option maxRecDepth 100000
noncomputable def S25 : FnSpec := spec Try.f25 [.slot 0 (.wnd (.int .u8) 5 true), .slot 1 (.ty (.sl (.int .u8)))] [.slot 0 (.ty .bool)] F25
theorem K25 : FnOk Try.prog 25 S25 := fn_known (tbl := [(18, S18), (21, S21)]) mixedTry (.cons K18 (.cons K21 .nil)) .nil Try.func25 rfl rfl (by kernel_rfl)
noncomputable def S70 : FnSpec := spec Try.f70 [.slot 0 (.ty (.sl (.int .u8))), .slot 1 (.ty (.int .i64))] [.slot 0 (.ty (.int .i64)), .slot 1 (.ty .bool)] F70
theorem K70 : FnOk Try.prog 70 S70 := fn_known (tbl := [(23, S23), (67, S67)]) mixedTry (.cons K23 (.cons K67 .nil)) .nil Try.func70 rfl rfl (by kernel_rfl)
noncomputable def S87 : FnSpec := spec Try.f87 [.slot 0 (.ty (.sl (.int .u8)))] [.slot 0 (.own (.int .u8) 5), .slot 1 (.ty (.int .i64))] F87
theorem K87 : FnOk Try.prog 87 S87 := fn_known (tbl := [(68, S68)]) mixedTry (.cons K68 .nil) .nil Try.func87 rfl rfl (by kernel_rfl)
noncomputable def S71 : FnSpec := spec Try.f71 [.slot 0 (.ty (.sl (.int .u8))), .slot 1 (.ty (.int .i64)), .slot 2 (.ty (.int .i64))] [.agg 0 (.ty (.arr .u8 16)), .slot 1 (.ty (.sl (.int .u8))), .slot 2 (.ty .bool)] F71
theorem K71 : FnOk Try.prog 71 S71 := fn_known (tbl := [(87, S87), (66, S66)]) mixedTry (.cons K87 (.cons K66 .nil)) (.node .nil (.node .nil (.node .nil (.node .nil (.node (.node .nil (.node (.loop [.slot 12 (.ty (.int .i64)), .blk 2 26 (.ty (.arr .u8 16))] [(.ext 0, [.blk 2 26 (.ty (.arr .u8 16))])] [] .nil) .nil)) .nil))))) Try.func71 rfl rfl (by kernel_rfl)
noncomputable def S27 : FnSpec := spec Try.f27 [.slot 0 (.ty (.sl (.int .u8)))] [.slot 0 (.own (.pr (.arr .u8 16) (.pr (.int .i64) (.int .i64))) 35), .slot 1 (.ty (.int .i64)), .slot 2 (.ty (.int .i64)), .slot 3 (.ty (.int .i64))] F27
theorem K27 : FnOk Try.prog 27 S27 := fn_known (tbl := [(70, S70), (23, S23), (71, S71)]) mixedTry (.cons K70 (.cons K23 (.cons K71 .nil))) (.node .nil (.node .nil (.node .nil (.node (.loop [.slot 6 (.own (.pr (.arr .u8 16) (.pr (.int .i64) (.int .i64))) 35), .slot 7 (.ty (.int .i64)), .slot 8 (.ty (.int .i64))] [(.ret, [.slot 2 (.own (.pr (.arr .u8 16) (.pr (.int .i64) (.int .i64))) 35), .slot 3 (.ty (.int .i64)), .slot 4 (.ty (.int .i64)), .slot 5 (.ty (.int .i64))])] [] (.node (.node .nil (.node .nil (.node .nil (.node .nil (.node .nil (.node .nil (.node (.node .nil (.cut [(.norm, [.slot 6 (.own (.pr (.arr .u8 16) (.pr (.int .i64) (.int .i64))) 35), .slot 8 (.ty (.int .i64))])] [1] .nil)) .nil))))))) .nil)) .nil)))) Try.func27 rfl rfl (by kernel_rfl)
noncomputable def S30 : FnSpec := spec Try.f30 [.slot 0 (.ty (.sl (.int .u8))), .agg 1 (.pr (.ty (.arr .u8 16)) (.pr (.ty (.int .i64)) (.ty (.int .i64))))] [.slot 0 (.ty (.sl (.int .u8))), .slot 1 (.ty (.int .i64))] F30
theorem K30 : FnOk Try.prog 30 S30 := fn_known (tbl := [(70, S70), (23, S23), (71, S71)]) mixedTry (.cons K70 (.cons K23 (.cons K71 .nil))) .nil Try.func30 rfl rfl (by kernel_rfl)
noncomputable def S5 : FnSpec := spec Try.f5 [] [.slot 0 (.ty .bool)] F5
theorem K5 : FnOk Try.prog 5 S5 := fn_known (tbl := [(31, S31), (32, S32), (19, S19), (33, S33), (29, S29), (22, S22), (17, S17), (34, S34)]) mixedTry (.cons K31 (.cons K32 (.cons K19 (.cons K33 (.cons K29 (.cons K22 (.cons K17 (.cons K34 .nil)))))))) .nil Try.func5 rfl rfl (by kernel_rfl)
noncomputable def S35 : FnSpec := spec Try.f35 [.slot 0 (.ty (.sl (.sl (.int .u8))))] [.slot 0 (.own (.int .u8) 5), .slot 1 (.own (.int .i64) 3), .slot 2 (.own (.pr (.arr .u8 16) (.pr (.int .i64) (.int .i64))) 35), .slot 3 (.ty .bool)] F35
theorem K35 : FnOk Try.prog 35 S35 := fn_known (tbl := [(19, S19), (22, S22)]) mixedTry (.cons K19 (.cons K22 .nil)) (.node .nil (.node .nil (.node .nil (.node .nil (.node .nil (.node (.node .nil (.node (.loop [.slot 9 (.ty (.int .i64)), .slot 10 (.ty (.int .i64))] [(.ext 0, [.slot 9 (.ty (.int .i64))])] [] .nil) .nil)) (.node .nil (.node (.node .nil (.node (.loop [.slot 6 (.own (.int .u8) 5), .slot 7 (.own (.int .i64) 3), .slot 8 (.own (.pr (.arr .u8 16) (.pr (.int .i64) (.int .i64))) 35), .slot 11 (.ty (.int .i64))] [(.ret, [.slot 2 (.nils), .slot 3 (.nils), .slot 4 (.nils), .slot 5 (.ty .bool)]), (.ext 2, [.slot 6 (.own (.int .u8) 5), .slot 7 (.own (.int .i64) 3), .slot 8 (.own (.pr (.arr .u8 16) (.pr (.int .i64) (.int .i64))) 35)])] [] .nil) .nil)) .nil)))))))) Try.func35 rfl rfl (by kernel_rfl)
noncomputable def S37 : FnSpec := spec Try.f37 [.slot 0 (.ty (.int .i64)), .slot 1 (.ty (.int .i64))] [.slot 0 (.ty (.int .i64))] F37
theorem K37 : FnOk Try.prog 37 S37 := fn_known (tbl := []) mixedTry .nil (.node .nil (.node .nil (.node .nil (.node (.node .nil (.cut [(.norm, [.slot 0 (.ty (.int .i64))])] [] .nil)) .nil)))) Try.func37 rfl rfl (by kernel_rfl)
noncomputable def S6 : FnSpec := spec Try.f6 [.slot 0 (.ty (.sl (.sl (.int .u8)))), .slot 1 (.ty (.int .i64))] [.slot 0 (.ty .bool)] F6
theorem K6 : FnOk Try.prog 6 S6 := fn_known (tbl := [(5, S5), (35, S35), (34, S34), (29, S29), (21, S21), (36, S36), (37, S37)]) mixedTry (.cons K5 (.cons K35 (.cons K34 (.cons K29 (.cons K21 (.cons K36 (.cons K37 .nil))))))) (.node .nil (.node .nil (.node .nil (.node .nil (.node .nil (.node (.node .nil (.node (.loop [.slot 10 (.ty (.int .i64))] [(.ret, [.slot 4 (.ty .bool)]), (.ext 0, [])] [] .nil) .nil)) (.node .nil (.node .nil (.node (.node (.loop [.slot 13 (.ty (.int .i64)), .slot 14 (.ty (.int .i64))] [(.ext 2, [.slot 13 (.ty (.int .i64)), .slot 14 (.ty (.int .i64))])] [] .nil) .nil) (.node .nil (.node (.node .nil (.cut [(.norm, [.slot 15 (.ty (.int .i64))])] [] .nil)) .nil))))))))))) Try.func6 rfl rfl (by kernel_rfl)
noncomputable def S7 : FnSpec := spec Try.f7 [.slot 0 (.ty (.sl (.sl (.int .u8)))), .slot 1 (.ty (.int .i64)), .slot 2 (.ty (.int .i64)), .slot 3 (.ty (.int .u32))] [.slot 0 (.ty .bool)] F7
theorem K7 : FnOk Try.prog 7 S7 := fn_known (tbl := [(17, S17), (35, S35), (37, S37), (29, S29), (34, S34)]) mixedTry (.cons K17 (.cons K35 (.cons K37 (.cons K29 (.cons K34 .nil))))) (.node .nil (.node .nil (.node .nil (.node .nil (.node .nil (.node .nil (.node .nil (.node (.node .nil (.node (.loop [.slot 15 (.ty (.int .i64)), .row 1 (.int .u8) 5] [(.ext 0, [.row 1 (.int .u8) 5])] [] (.node .nil (.node (.node (.node .nil (.cut [(.norm, [.row 1 (.int .u8) 5])] [] .nil)) .nil) .nil))) .nil)) .nil)))))))) Try.func7 rfl rfl (by kernel_rfl)
noncomputable def S8 : FnSpec := spec Try.f8 [.slot 0 (.ty (.sl (.sl (.int .u8)))), .slot 1 (.ty (.int .i64)), .slot 2 (.ty (.int .i64))] [.slot 0 (.ty .bool)] F8
theorem K8 : FnOk Try.prog 8 S8 := fn_known (tbl := [(17, S17), (35, S35), (37, S37), (29, S29), (34, S34)]) mixedTry (.cons K17 (.cons K35 (.cons K37 (.cons K29 (.cons K34 .nil))))) .nil Try.func8 rfl rfl (by kernel_rfl)
end Go.Sat
end
section
namespace Go.Sat
open Go Go.Proofs
set_option maxRecDepth 100000
noncomputable def S9 : FnSpec := spec Try.f9 [.slot 0 (.ty (.sl (.int .u8)))] [.slot 0 (.ty .bool)] F9
theorem K9 : FnOk Try.prog 9 S9 := fn_known (tbl := [(17, S17), (26, S26), (29, S29), (36, S36), (22, S22)]) mixedTry (.cons K17 (.cons K26 (.cons K29 (.cons K36 (.cons K22 .nil))))) (.node .nil (.node .nil (.node .nil (.node .nil (.node .nil (.node (.node .nil (.node (.loop [.slot 8 (.ty (.int .i64)), .slot 9 (.ty (.int .i64))] [(.ret, [.slot 2 (.ty .bool)]), (.ext 0, [.slot 8 (.ty (.int .i64))])] [] .nil) .nil)) .nil)))))) Try.func9 rfl rfl (by kernel_rfl)
noncomputable def S24F : FnSpec := spec Try.f24 [.slot 0 (.wnd (.int .u8) 5 true)] [] F24F
theorem K24F : FnOk Try.prog 24 S24F := fn_known (tbl := []) mixedTry .nil (.node .nil (.node .nil (.node (.loop [.slot 3 (.ty (.int .i64)), .rowf 0 (.int .u8) 5] [(.ext 0, [.rowf 0 (.int .u8) 5])] [] .nil) .nil))) Try.func24 rfl rfl (by kernel_rfl)
end Go.Sat
end
section
namespace Go.Sat
open Go

section
variable {α : Type}
theorem bif_t {c : Bool} {a b : α} (h : c = true) : (bif c then a else b) = a := by rw [h]; rfl
theorem bif_f {c : Bool} {a b : α} (h : c = false) : (bif c then a else b) = b := by rw [h]; rfl
theorem bif_dt {p : Prop} [Decidable p] {a b : α} (h : p) : (bif decide p then a else b) = a := bif_t (decide_eq_true h)
theorem bif_df {p : Prop} [Decidable p] {a b : α} (h : ¬ p) : (bif decide p then a else b) = b := bif_f (decide_eq_false h)
theorem bif_nt {p : Prop} [Decidable p] {a b : α} (h : p) : (bif !decide p then a else b) = b := by simp [h]
theorem bif_nf {p : Prop} [Decidable p] {a b : α} (h : ¬ p) : (bif !decide p then a else b) = a := by simp [h]
theorem bif_nn {c : Bool} {a b : α} : (bif !!c then a else b) = (bif c then a else b) := by simp
theorem bif_64 {x : Int} {a b : α} (h1 : -9223372036854775808 ≤ x) (h2 : x ≤ 9223372036854775807) : (bif f64 x then a else b) = a := bif_t (f64_iff.2 ⟨h1, h2⟩)
theorem bif_in {i : Int} {n : Nat} {a b : α} (h1 : 0 ≤ i) (h2 : i < (n : Int)) : (bif inB i n then a else b) = a := bif_t (inB_iff.2 ⟨h1, h2⟩)
theorem bif_room {n k : Nat} {a b : α} (h1 : n * k ≤ 140737488355328) (h2 : n ≤ 4611686018427387904) : (bif roomFor n k then a else b) = a := bif_t (by simp [roomFor, h1, h2])
theorem bif_and2 {p q : Prop} [Decidable p] [Decidable q] {a b : α} (h1 : p) (h2 : q) : (bif decide p && decide q then a else b) = a := bif_t (by simp [h1, h2])
theorem bif_and3 {p q r : Prop} [Decidable p] [Decidable q] [Decidable r] {a b : α} (h1 : p) (h2 : q) (h3 : r) : (bif decide p && (decide q && decide r) then a else b) = a := bif_t (by simp [h1, h2, h3])
theorem bif_andt {p : Prop} [Decidable p] {a b : α} (h1 : p) : (bif decide p && true then a else b) = a := bif_t (by simp [h1])
theorem bif_tand2 {p q : Prop} [Decidable p] [Decidable q] {a b : α} (h1 : p) (h2 : q) : (bif true && (decide p && decide q) then a else b) = a := bif_t (by simp [h1, h2])
theorem bif_ttand {p : Prop} [Decidable p] {a b : α} (h1 : p) : (bif true && (true && decide p) then a else b) = a := bif_t (by simp [h1])
theorem bif_and3t {p q : Prop} [Decidable p] [Decidable q] {a b : α} (h1 : p) (h2 : q) : (bif decide p && decide q && true then a else b) = a := bif_t (by simp [h1, h2])
theorem gb {β : Type} {l : List Int} {i : Int} {f : Int → Option β} (h1 : 0 ≤ i) (h2 : i < (l.length : Int)) : (l[i.toNat]?.bind f) = f (rd l i) := by
  have : i.toNat < l.length := by omega
  rw [List.getElem?_eq_getElem this]
  simp [rd, List.getD_eq_getElem?_getD, this]
theorem gbN {β : Type} {l : List Int} {k : Nat} {f : Int → Option β} (h : k < l.length) : (l[k]?.bind f) = f (rd l (k : Int)) := by
  rw [List.getElem?_eq_getElem h]
  simp [rd, List.getD_eq_getElem?_getD, h]
end
theorem loop_count {S O : Type} {step : S → Option (S ⊕ O)} (f : Nat → S) (n : Nat) {o : O} {s0 : S} (h0 : s0 = f 0) (hs : ∀ k, k < n → step (f k) = some (.inl (f (k + 1)))) (he : step (f n) = some (.inr o)) : loopS step s0 = some o := by
  subst h0
  have key : ∀ m, m ≤ n → loopS step (f (n - m)) = some o := by
    intro m
    induction m with
    | zero => intro _; rw [loopS_unroll, Nat.sub_zero, he]
    | succ m ih =>
      intro h
      rw [loopS_unroll, hs _ (by omega), show n - (m + 1) + 1 = n - m by omega]
      exact ih (by omega)
  have := key n (Nat.le_refl _)
  rwa [Nat.sub_self] at this
/-- a loop with an invariant -/
theorem loop_inv {S O : Type} {step : S → Option (S ⊕ O)} (I : S → Prop) (μ : S → Nat) (Q : O → Prop) {s0 : S} (h0 : I s0) (h : ∀ s, I s → (∃ s', step s = some (.inl s') ∧ I s' ∧ μ s' < μ s) ∨ ∃ o, step s = some (.inr o) ∧ Q o) : ∃ o, loopS step s0 = some o ∧ Q o := by
  have key : ∀ n s, μ s ≤ n → I s → ∃ o, loopS step s = some o ∧ Q o := by
    intro n
    induction n with
    | zero =>
      intro s hm hI
      rcases h s hI with ⟨s', _, _, h3⟩ | ⟨o, h1, h2⟩
      · omega
      · exact ⟨o, by rw [loopS_unroll, h1], h2⟩
    | succ n ih =>
      intro s hm hI
      rcases h s hI with ⟨s', h1, h2, h3⟩ | ⟨o, h1, h2⟩
      · obtain ⟨o, g1, g2⟩ := ih s' (by omega) h2
        exact ⟨o, by rw [loopS_unroll, h1]; exact g1, g2⟩
      · exact ⟨o, by rw [loopS_unroll, h1], h2⟩
  exact key _ s0 (Nat.le_refl _) h0
/-- a loop and what comes behind it -/
theorem loop_then {S O R : Type} {step : S → Option (S ⊕ O)} {s0 : S} {k : O → Option R} (G : Option R → Prop) (I : S → Prop) (μ : S → Nat) (Q : O → Prop) (h0 : I s0)
    (h : ∀ s, I s → (∃ s', step s = some (.inl s') ∧ I s' ∧ μ s' < μ s) ∨ ∃ o, step s = some (.inr o) ∧ Q o) (hk : ∀ o, Q o → G (k o)) : G ((loopS step s0).bind k) := by
  obtain ⟨o, h1, h2⟩ := loop_inv I μ Q h0 h
  rw [h1]; exact hk o h2
theorem rd_nat (l : List Int) (k : Nat) : rd l (k : Int) = l.getD k 0 := by simp [rd]
end Go.Sat
end
section
namespace Go.Sat
open Go

theorem F151_eq {x n : Int} (h1 : 0 < n) (h2 : n < 32) : F151 ((x, n) : Int × Int) = some (rot x n) := by
  unfold F151 F152
  dsimp only [St, Item.den, Pat.den, Ty.den]
  have e0 : IntKind.i64.wrap (0 - n) = 0 - n := wrap_fits ⟨by omega, by omega⟩
  have e1 := down_count n h1 h2
  rw [e0] at e1
  have e2 := down_back n h1 h2
  simp only [e1, e2]
  simp (disch := omega) only [bif_64, bif_dt, Option.bind_some]
  rw [rot, bOr_comm]
theorem F148_eq {x n : Int} (h1 : 0 < n) (h2 : n < 32) : F148 ((x, n) : Int × Int) = some (rot x n) := by
  unfold F148
  dsimp only [St, Item.den, Pat.den, Ty.den]
  simp (disch := omega) only [bif_64, bif_dt]
  rfl
theorem F149_eq (b : List Int) (hb : b.length = 64) : F149 b = some ⟨shaW b, shaW_length b⟩ := by
  unfold F149
  dsimp only [St, Item.den, Pat.den, Ty.den]
  rw [loop_count (o := ⟨wsA b 16, wsA_length b 16⟩) (fun k => ((k : Int), (⟨wsA b k, wsA_length b k⟩ : Arr 64))) 16 ?h0 ?hs ?he]
  case h0 => rfl
  case he => simp (disch := omega) only [bif_df]
  case hs =>
    intro k hk
    have hl := wsA_length b k
    dsimp only
    simp (disch := omega) only [bif_dt, bif_64, bif_in, gb]
    refine congrArg some (congrArg Sum.inl (Prod.ext (by simp only; omega) (Arr.ext' ?_)))
    rfl
  rw [Option.bind_some, loop_count (o := ⟨wsB b 48, wsB_length b 48⟩) (fun k => ((16 : Int) + (k : Int), (⟨wsB b k, wsB_length b k⟩ : Arr 64))) 48 ?h0 ?hs ?he]
  case h0 => rfl
  case he => simp (disch := omega) only [bif_df]
  case hs =>
    intro k hk
    have hl := wsB_length b k
    dsimp only
    simp (disch := omega) only [bif_dt, bif_64, bif_in, gb, F151_eq, Option.bind_some]
    refine congrArg some (congrArg Sum.inl (Prod.ext (by simp only; omega) (Arr.ext' ?_)))
    show (wsB b k).set _ _ = (wsB b k).set _ _
    rw [show (16 + (k : Int)).toNat = 16 + k by omega]
    rfl
  rfl
theorem F150_eq : F150 () = some ⟨shaK, shaK_length⟩ := by
  unfold F150
  rfl
theorem F147_eq : F147 () = some ⟨shaK, shaK_length⟩ := by
  unfold F147
  rfl
theorem F133_eq : F133 () = some ⟨shaInit, shaInit_length⟩ := by
  unfold F133
  rfl
theorem F134_eq (s : Arr 8) (b : List Int) (hb : b.length = 64) : F134 ((s, b) : Arr 8 × List Int) = some ⟨shaNext s.l b, shaNext_length s.h⟩ := by
  have hw := shaW_length b
  have hK := shaK_length
  unfold F134
  dsimp only [St, Item.den, Pat.den, Ty.den]
  simp only [F149_eq b hb, F150_eq, Option.bind_some]
  rw [loop_count (o := ⟨shaIter (shaW b) s.l 64, shaIter_length s.h 64⟩) (fun k => ((k : Int), (⟨shaIter (shaW b) s.l k, shaIter_length s.h k⟩ : Arr 8))) 64 ?h0 ?hs ?he]
  case h0 => rfl
  case he => simp (disch := omega) only [bif_df]
  case hs =>
    intro k hk
    have hl := shaIter_length (w := shaW b) s.h k
    dsimp only
    simp (disch := omega) only [bif_dt, bif_64, bif_in, gbN, F151_eq, Option.bind_some]
    refine congrArg some (congrArg Sum.inl (Prod.ext (by simp only; omega) (Arr.ext' ?_)))
    rfl
  rw [Option.bind_some, loop_count (o := ⟨addTo (shaIter (shaW b) s.l 64) s.l 8, addTo_length (shaIter_length s.h 64) 8⟩) (fun k => ((k : Int), (⟨addTo (shaIter (shaW b) s.l 64) s.l k, addTo_length (shaIter_length s.h 64) k⟩ : Arr 8))) 8 ?h0 ?hs ?he]
  case h0 => rfl
  case he => simp (disch := omega) only [bif_df]
  case hs =>
    intro k hk
    have hl := addTo_length (s := s.l) (shaIter_length (w := shaW b) s.h 64) k
    have h8 := s.h
    dsimp only
    simp (disch := omega) only [bif_dt, bif_64, bif_in, gb]
    refine congrArg some (congrArg Sum.inl (Prod.ext (by simp only; omega) (Arr.ext' ?_)))
    rfl
  rfl
end Go.Sat
end
section
namespace Go.Sat
open Go

theorem tmod_nat (a b : Nat) : Int.tmod (a : Int) (b : Int) = ((a % b : Nat) : Int) := rfl
theorem tdiv_nat (a b : Nat) : Int.tdiv (a : Int) (b : Int) = ((a / b : Nat) : Int) := rfl
theorem nmin (a b : Nat) : Nat.min a b ≤ a ∧ Nat.min a b ≤ b ∧ (Nat.min a b = a ∨ Nat.min a b = b) := ⟨Nat.min_le_left _ _, Nat.min_le_right _ _, by rw [show Nat.min a b = min a b from rfl]; omega⟩
abbrev Dig := Bool × Arr 8 × Arr 64 × Int
theorem F110_eq : F110 () = some ((true, ⟨shaInit, shaInit_length⟩, ⟨zer 64, zer_length 64⟩, 0) : Dig) := by
  unfold F110
  rw [F133_eq]
  rfl
theorem F111_eq {m b : List Int} {s : Arr 8} {wt : Arr 64} {n : Int} (hD : DigS m s.l wt.l n) (hb : m.length + b.length < 4398046511104) :
    ∃ s' wt' n', F111 ((((true, s, wt, n) : Dig), b) : Dig × List Int) = some ((true, s', wt', n') : Dig) ∧ DigS (m ++ b) s'.l wt'.l n' := by
  unfold F111
  dsimp only [St, Item.den, Pat.den, Ty.den]
  simp only [Bool.not_true, cond_false]
  refine loop_then (S := List Int × Dig) (O := Dig) (fun r => ∃ s' wt' n', r = some ((true, s', wt', n') : Dig) ∧ DigS (m ++ b) s'.l wt'.l n') (fun s => s.2.1 = true ∧ ∃ m', m' ++ s.1 = m ++ b ∧ DigS m' s.2.2.1.l s.2.2.2.1.l s.2.2.2.2) (fun s => s.1.length) (fun o => o.1 = true ∧ DigS (m ++ b) o.2.1.l o.2.2.1.l o.2.2.2) ⟨rfl, m, rfl, hD⟩ ?_ ?_
  · rintro ⟨rest, made, s, wt, n⟩ ⟨hmade, m', hm, hD⟩
    dsimp only at hmade hm hD
    subst hmade
    have hn := hD.hn
    subst hn
    have hlen : m'.length + rest.length = m.length + b.length := by rw [← List.length_append, hm, List.length_append]
    have htm : Int.tmod (m'.length : Int) 64 = ((m'.length % 64 : Nat) : Int) := tmod_nat _ 64
    dsimp only
    simp only [htm, subN_eq, Int.toNat_natCast, zi]
    obtain ⟨at_, hat⟩ : ∃ a, m'.length % 64 = a := ⟨_, rfl⟩
    have hat64 : at_ < 64 := by omega
    simp only [hat]
    by_cases hr : rest.length = 0
    · right
      have hz : rest = [] := List.eq_nil_of_length_eq_zero hr
      subst hz
      refine ⟨(true, s, wt, (m'.length : Int)), ?_, rfl, ?_⟩
      · rw [bif_df (by simp)]
      · rw [List.append_nil] at hm
        rw [← hm]; exact hD
    · left
      obtain ⟨k, hk⟩ : ∃ k, Nat.min rest.length (64 - at_) = k := ⟨_, rfl⟩
      obtain ⟨k1, k2, k3⟩ := nmin rest.length (64 - at_)
      simp only [hk] at k1 k2 k3 ⊢
      have hxl : (List.take k rest).length = k := by rw [List.length_take]; omega
      have hol : (over wt.l at_ (List.take k rest)).length = 64 := by rw [over_length (by rw [hxl, wt.h]; omega), wt.h]
      have hrest : List.take (rest.length - k) (List.drop k rest) = List.drop k rest := List.take_of_length_le (by rw [List.length_drop]; omega)
      have harr : Arr.of 64 (over wt.l at_ (List.take k rest)) = ⟨over wt.l at_ (List.take k rest), hol⟩ := Arr.of_self hol
      have hwin : List.take 64 (List.drop 0 (List.take 64 (over wt.l at_ (List.take k rest) ++ zer 64))) = over wt.l at_ (List.take k rest) := by
        rw [List.drop_zero, List.take_take, List.take_left' (by omega)]
      have hsplit : List.take k rest ++ List.drop k rest = rest := List.take_append_drop k rest
      rw [bif_dt (by omega), bif_tand2 (by omega) (by omega), bif_tand2 (by omega) (by omega), bif_64 (by omega) (by omega), bif_64 (by omega) (by omega)]
      by_cases hfull : at_ + k = 64
      · rw [bif_dt (by omega)]
        rw [hwin, F134_eq s _ hol]
        simp only [Option.bind_some, harr, hrest]
        refine ⟨_, rfl, ⟨rfl, m' ++ List.take k rest, by rw [List.append_assoc, hsplit]; exact hm, ?_⟩, ?_⟩
        · have := hD.full (x := List.take k rest) (by omega)
          rw [hat, hxl] at this
          exact this
        · show (List.drop k rest).length < rest.length
          rw [List.length_drop]; omega
      · rw [bif_df (by omega)]
        simp only [Option.bind_some, harr, hrest]
        refine ⟨_, rfl, ⟨rfl, m' ++ List.take k rest, by rw [List.append_assoc, hsplit]; exact hm, ?_⟩, ?_⟩
        · have := hD.some (x := List.take k rest) (by omega)
          rw [hat, hxl] at this
          exact this
        · show (List.drop k rest).length < rest.length
          rw [List.length_drop]; omega
  · rintro ⟨made, s', wt', n'⟩ ⟨h2, h3⟩
    dsimp only at h2 h3
    subst h2
    exact ⟨s', wt', n', rfl, h3⟩
end Go.Sat
end
section
namespace Go.Sat
open Go

theorem pad_len (n : Nat) : (1 + Int.tmod (119 - Int.tmod (n : Int) 64) 64) = ((1 + (119 - n % 64) % 64 : Nat) : Int) := by
  have h1 : Int.tmod (n : Int) 64 = ((n % 64 : Nat) : Int) := tmod_nat n 64
  rw [h1, show (119 : Int) - ((n % 64 : Nat) : Int) = ((119 - n % 64 : Nat) : Int) by omega]
  have h2 : Int.tmod ((119 - n % 64 : Nat) : Int) 64 = (((119 - n % 64) % 64 : Nat) : Int) := tmod_nat _ 64
  rw [h2]; omega
theorem F112_eq {m : List Int} {s : Arr 8} {wt : Arr 64} {n : Int} (hD : DigS m s.l wt.l n) (hb : m.length < 1099511627776) :
    F112 ((true, s, wt, n) : Dig) = some (((⟨sha m, sha_length m⟩ : Arr 32), ((true, s, wt, n) : Dig)) : Arr 32 × Dig) := by
  have hn := hD.hn
  subst hn
  unfold F112
  dsimp only [St, Item.den, Pat.den, Ty.den]
  simp only [Bool.not_true, cond_false, pad_len]
  obtain ⟨z, hz⟩ : ∃ z, (119 - m.length % 64) % 64 = z := ⟨_, rfl⟩
  have hz64 : z < 64 := by omega
  have h119 : (119 : Int) - Int.tmod (m.length : Int) 64 = ((119 - m.length % 64 : Nat) : Int) := by
    have h1 : Int.tmod (m.length : Int) 64 = ((m.length % 64 : Nat) : Int) := tmod_nat _ 64
    rw [h1]; omega
  simp only [hz, h119, Int.toNat_natCast, zer_length]
  have hset : (zer (1 + z)).set 0 128 = 128 :: zer z := by rw [Nat.add_comm]; rfl
  have hget : (zer (1 + z))[0]? = some 0 := by rw [Nat.add_comm]; rfl
  have hL : (128 :: zer z ++ be8 (8 * m.length) 8) = shaPad m.length := by unfold shaPad; rw [hz]
  have hpl := shaPad_length m.length
  rw [bif_64 (by omega) (by omega), bif_64 (by omega) (by omega), bif_and3t (by omega) (by omega), bif_in (by omega) (by omega), hget, Option.bind_some, hset]
  rw [loop_count (o := shaPad m.length) (fun k => ((128 :: zer z) ++ be8 (8 * m.length) k, (56 : Int) - 8 * (k : Int))) 8 ?h0 ?hs ?he]
  case h0 => simp [be8]
  case he =>
    dsimp only
    rw [bif_df (by omega)]
    rw [← hL]
  case hs =>
    intro k hk
    have hl : ((128 :: zer z) ++ be8 (8 * m.length) k).length = 1 + z + k := by rw [List.length_append, be8_length, List.length_cons, zer_length]; omega
    dsimp only
    rw [bif_dt (by omega), bif_64 (by omega) (by omega), bif_dt (by omega), bif_room (by rw [List.length_singleton, hl]; omega) (by rw [List.length_singleton, hl]; omega), bif_64 (by omega) (by omega)]
    refine congrArg some (congrArg Sum.inl (Prod.ext ?_ (by simp only; omega)))
    show ((128 :: zer z) ++ be8 (8 * m.length) k) ++ _ = (128 :: zer z) ++ (be8 (8 * m.length) k ++ _)
    rw [List.append_assoc]
  rw [Option.bind_some]
  obtain ⟨s', wt', n', h1, h2⟩ := F111_eq (b := shaPad m.length) hD (by omega)
  erw [h1]
  rw [Option.bind_some]
  dsimp only
  have hfin : sha m = outAt s'.l 8 := by
    rw [outAt_all _ h2.ls, h2.hs]
    rfl
  rw [loop_count (o := (⟨sha m, sha_length m⟩ : Arr 32)) (fun k => ((k : Int), if h : k ≤ 8 then (⟨outAt s'.l k, outAt_length _ k h⟩ : Arr 32) else Arr.zero 32)) 8 ?h0 ?hs ?he]
  case h0 => rfl
  case he =>
    dsimp only
    rw [bif_df (by omega)]
    refine congrArg some (congrArg Sum.inr (Arr.ext' ?_))
    exact hfin.symm
  case hs =>
    intro k hk
    have h8 := s'.h
    have hol := outAt_length s'.l k (by omega)
    have hol1 := outAt_length s'.l (k + 1) (by omega)
    dsimp only
    rw [dif_pos (by omega : k ≤ 8), dif_pos (by omega : k + 1 ≤ 8)]
    rw [bif_dt (by omega), bif_in (by omega) (by omega), gb (by omega) (by omega), bif_64 (by omega) (by omega), bif_tand2 (by omega) (by omega), bif_64 (by omega) (by omega)]
    refine congrArg some (congrArg Sum.inl (Prod.ext (by simp only; omega) (Arr.ext' ?_)))
    have h4 : (4 * (k : Int)).toNat = 4 * k := by omega
    have hm : ∀ (l : List Int), l.length = 4 → List.take (l.length.min (subN 32 (4 * k))) l = l := fun l hl => by
      rw [subN_eq, List.take_of_length_le]
      obtain ⟨_, _, h5⟩ := nmin l.length (32 - 4 * k)
      omega
    simp only [h4]
    rw [hm _ rfl]
    rw [Arr.of_l]
    · rfl
    · exact hol1
  rw [Option.bind_some]
theorem F74_eq (m : List Int) (hb : m.length < 1099511627776) : F74 m = some ⟨sha m, sha_length m⟩ := by
  unfold F74
  rw [F110_eq, Option.bind_some]
  obtain ⟨s', wt', n', h1, h2⟩ := F111_eq (m := []) (b := m) (s := ⟨shaInit, shaInit_length⟩) (wt := ⟨zer 64, zer_length 64⟩) (n := 0) DigS.first (by simp; omega)
  dsimp only
  erw [h1]
  rw [Option.bind_some]
  dsimp only
  erw [F112_eq h2 (by simpa using hb)]
  rfl
def idA (m : List Int) : Arr 16 := ⟨shaID m, shaID_length m⟩
theorem F36_eq (m : List Int) (hb : m.length < 1099511627776) : F36 m = some (idA m) := by
  unfold F36
  rw [F74_eq m hb, Option.bind_some]
  refine congrArg some (Arr.ext' ?_)
  rw [Arr.of_l]
  · rfl
  · simp [sha_length]
end Go.Sat
end
section
namespace Go.Sat
open Go

theorem F146_eq (b : List Int) (hb : b.length = 64) : F146 b = some ⟨shaW b, shaW_length b⟩ := by
  unfold F146
  dsimp only [St, Item.den, Pat.den, Ty.den]
  rw [loop_count (o := ⟨wsA b 16, wsA_length b 16⟩) (fun k => ((k : Int), (⟨wsA b k, wsA_length b k⟩ : Arr 64))) 16 ?h0 ?hs ?he]
  case h0 => rfl
  case he => simp (disch := omega) only [bif_df]
  case hs =>
    intro k hk
    have hl := wsA_length b k
    dsimp only
    simp (disch := omega) only [bif_dt, bif_64, bif_in, gb]
    refine congrArg some (congrArg Sum.inl (Prod.ext (by simp only; omega) (Arr.ext' ?_)))
    rfl
  rw [Option.bind_some, loop_count (o := ⟨wsB b 48, wsB_length b 48⟩) (fun k => ((16 : Int) + (k : Int), (⟨wsB b k, wsB_length b k⟩ : Arr 64))) 48 ?h0 ?hs ?he]
  case h0 => rfl
  case he => simp (disch := omega) only [bif_df]
  case hs =>
    intro k hk
    have hl := wsB_length b k
    dsimp only
    simp (disch := omega) only [bif_dt, bif_64, bif_in, gb, F148_eq, Option.bind_some]
    refine congrArg some (congrArg Sum.inl (Prod.ext (by simp only; omega) (Arr.ext' ?_)))
    show (wsB b k).set _ _ = (wsB b k).set _ _
    rw [show (16 + (k : Int)).toNat = 16 + k by omega]
    rfl
  rfl
theorem F132_eq (s : Arr 8) (b : List Int) (hb : b.length = 64) : F132 ((s, b) : Arr 8 × List Int) = some ⟨shaNext s.l b, shaNext_length s.h⟩ := by
  have hw := shaW_length b
  have hK := shaK_length
  unfold F132
  dsimp only [St, Item.den, Pat.den, Ty.den]
  simp only [F146_eq b hb, F147_eq, Option.bind_some]
  rw [loop_count (o := ⟨shaIter (shaW b) s.l 64, shaIter_length s.h 64⟩) (fun k => ((k : Int), (⟨shaIter (shaW b) s.l k, shaIter_length s.h k⟩ : Arr 8))) 64 ?h0 ?hs ?he]
  case h0 => rfl
  case he => simp (disch := omega) only [bif_df]
  case hs =>
    intro k hk
    have hl := shaIter_length (w := shaW b) s.h k
    dsimp only
    simp (disch := omega) only [bif_dt, bif_64, bif_in, gbN, F148_eq, Option.bind_some]
    refine congrArg some (congrArg Sum.inl (Prod.ext (by simp only; omega) (Arr.ext' ?_)))
    rfl
  rw [Option.bind_some, loop_count (o := ⟨addTo s.l (shaIter (shaW b) s.l 64) 8, addTo_length s.h 8⟩) (fun k => ((k : Int), (⟨addTo s.l (shaIter (shaW b) s.l 64) k, addTo_length s.h k⟩ : Arr 8))) 8 ?h0 ?hs ?he]
  case h0 => rfl
  case he => simp (disch := omega) only [bif_df]
  case hs =>
    intro k hk
    have hl := addTo_length (s := shaIter (shaW b) s.l 64) s.h k
    have h8 := shaIter_length (w := shaW b) s.h 64
    dsimp only
    simp (disch := omega) only [bif_dt, bif_64, bif_in, gb]
    refine congrArg some (congrArg Sum.inl (Prod.ext (by simp only; omega) (Arr.ext' ?_)))
    rfl
  rw [Option.bind_some]
  exact congrArg some (Arr.ext' (addTo_comm (shaIter_length s.h 64) s.h))
theorem F131_eq (x : List Int) (hb : x.length < 1099511627776) : F131 x = some (fill x) := by
  unfold F131
  dsimp only [St, Item.den, Pat.den, Ty.den]
  simp only [List.nil_append, zi]
  obtain ⟨z, hz⟩ : ∃ z, (119 - x.length % 64) % 64 = z := ⟨_, rfl⟩
  rw [bif_room (by omega) (by omega), bif_room (by omega) (by omega)]
  rw [loop_count (o := x ++ 128 :: zer z) (fun k => x ++ 128 :: zer k) z ?h0 ?hs ?he]
  case h0 => rfl
  case he =>
    have hl : (x ++ 128 :: zer z).length = x.length + 1 + z := by rw [List.length_append, List.length_cons, zer_length]; omega
    have ht : Int.tmod ((x.length + 1 + z : Nat) : Int) 64 = (((x.length + 1 + z) % 64 : Nat) : Int) := tmod_nat _ 64
    rw [hl, ht, bif_nt (by omega)]
  case hs =>
    intro k hk
    have hl : (x ++ 128 :: zer k).length = x.length + 1 + k := by rw [List.length_append, List.length_cons, zer_length]; omega
    have ht : Int.tmod ((x.length + 1 + k : Nat) : Int) 64 = (((x.length + 1 + k) % 64 : Nat) : Int) := tmod_nat _ 64
    rw [hl, ht, bif_nf (by omega), bif_room (by omega) (by omega)]
    rw [List.append_assoc, List.cons_append, zer_snoc]
  have hL : x ++ ((128 :: zer z) ++ be8 (8 * x.length) 8) = fill x := by unfold fill shaPad; rw [hz]
  rw [Option.bind_some, bif_64 (by omega) (by omega)]
  rw [loop_count (o := fill x) (fun k => (x ++ ((128 :: zer z) ++ be8 (8 * x.length) k), (7 : Int) - (k : Int))) 8 ?h0 ?hs ?he]
  case h0 => simp [be8]
  case he =>
    dsimp only
    rw [bif_df (by omega), ← hL]
  case hs =>
    intro k hk
    have hl : (x ++ ((128 :: zer z) ++ be8 (8 * x.length) k)).length = x.length + 1 + z + k := by rw [List.length_append, List.length_append, be8_length, List.length_cons, zer_length]; omega
    dsimp only
    rw [bif_dt (by omega), bif_64 (by omega) (by omega), bif_dt (by omega), bif_room (by rw [List.length_singleton, hl]; omega) (by rw [List.length_singleton, hl]; omega), bif_64 (by omega) (by omega)]
    rw [show (8 : Int) * (7 - (k : Int)) = 56 - 8 * (k : Int) by omega]
    refine congrArg some (congrArg Sum.inl (Prod.ext ?_ (by simp only; omega)))
    show (x ++ ((128 :: zer z) ++ be8 (8 * x.length) k)) ++ _ = x ++ ((128 :: zer z) ++ (be8 (8 * x.length) k ++ _))
    simp only [List.append_assoc]
  rfl
theorem F107_eq (x : List Int) (hb : x.length < 1099511627776) : F107 x = some ⟨sha x, sha_length x⟩ := by
  unfold F107
  dsimp only [St, Item.den, Pat.den, Ty.den]
  rw [F131_eq x hb, Option.bind_some]
  have hfl := fill_length x
  have hfb : (fill x).length = x.length + (9 + (119 - x.length % 64) % 64) := by unfold fill; rw [List.length_append, shaPad_length]
  dsimp only [zi]
  rw [loop_count (o := (⟨shaRun (fill x) ((fill x).length / 64), shaRun_length _ _⟩ : Arr 8)) (fun k => (64 * (k : Int), (⟨shaRun (fill x) k, shaRun_length _ k⟩ : Arr 8))) ((fill x).length / 64) ?h0 ?hs ?he]
  case h0 => rfl
  case he =>
    dsimp only
    rw [bif_df (by omega)]
  case hs =>
    intro k hk
    have hc : (chunk (fill x) k).length = 64 := chunk_length (by omega)
    have hch : List.take (subN (64 * (k : Int) + 64).toNat (64 * (k : Int)).toNat) (List.drop (64 * (k : Int)).toNat (fill x)) = chunk (fill x) k := by
      rw [subN_eq, show (64 * (k : Int) + 64).toNat - (64 * (k : Int)).toNat = 64 by omega, show (64 * (k : Int)).toNat = 64 * k by omega]
      rfl
    dsimp only
    rw [bif_dt (by omega), bif_64 (by omega) (by omega), bif_and3 (by omega) (by omega) (by omega), hch, F132_eq _ _ hc, Option.bind_some, bif_64 (by omega) (by omega)]
    exact congrArg some (congrArg Sum.inl (Prod.ext (by simp only; omega) rfl))
  rw [Option.bind_some]
  obtain ⟨s, hs⟩ : ∃ s, shaRun (fill x) ((fill x).length / 64) = s := ⟨_, rfl⟩
  have hs8 : s.length = 8 := by rw [← hs]; exact shaRun_length _ _
  have hsha : sha x = shaFin s := by rw [← hs]; rfl
  have hfin : (shaFin s).length = 32 := by rw [flat_length]; omega
  rw [loop_count (o := (⟨sha x, sha_length x⟩ : Arr 32)) (fun k => ((k : Int), if h : k ≤ 32 then (⟨built (fun i => rd (shaFin s) (i : Int)) 32 k, built_length h⟩ : Arr 32) else Arr.zero 32)) 32 ?h0 ?hs ?he]
  case h0 => rfl
  case he =>
    dsimp only
    rw [bif_df (by omega)]
    refine congrArg some (congrArg Sum.inr (Arr.ext' ?_))
    rw [dif_pos (by omega : (32 : Nat) ≤ 32)]
    show built _ 32 32 = sha x
    rw [built_all, map_rd _ _ (by omega), hsha, List.take_of_length_le (by omega)]
  case hs =>
    intro k hk
    have hb := built_length (f := fun i => rd (shaFin s) (i : Int)) (n := 32) (i := k) (by omega)
    have e1 : Int.tdiv (k : Int) 4 = ((k / 4 : Nat) : Int) := tdiv_nat k 4
    have e2 : Int.tmod (k : Int) 4 = ((k % 4 : Nat) : Int) := tmod_nat k 4
    have e3 := fin_at hs8 hk
    rw [e1, e2] at e3
    dsimp only
    simp only [hs]
    rw [dif_pos (by omega : k ≤ 32), dif_pos (by omega : k + 1 ≤ 32), e1, e2]
    rw [bif_dt (by omega), bif_64 (by omega) (by omega), bif_in (by omega) (by omega), gb (by omega) (by omega), bif_64 (by omega) (by omega), bif_64 (by omega) (by omega), bif_dt (by omega), bif_in (by omega) (by omega), bif_dt (by omega), bif_64 (by omega) (by omega), e3]
    refine congrArg some (congrArg Sum.inl (Prod.ext (by simp only; omega) (Arr.ext' ?_)))
    exact built_set (f := fun i => rd (shaFin s) (i : Int)) hk rfl
  rfl
theorem F66_eq (x : List Int) (hb : x.length < 1099511627776) : F66 x = some (idA x) := by
  unfold F66
  dsimp only [St, Item.den, Pat.den, Ty.den]
  rw [F107_eq x hb, Option.bind_some]
  have h32 := sha_length x
  rw [loop_count (o := idA x) (fun k => ((k : Int), if h : k ≤ 16 then (⟨built (fun i => rd (sha x) (i : Int)) 16 k, built_length h⟩ : Arr 16) else Arr.zero 16)) 16 ?h0 ?hs ?he]
  case h0 => rfl
  case he =>
    dsimp only
    rw [bif_df (by omega)]
    refine congrArg some (congrArg Sum.inr (Arr.ext' ?_))
    rw [dif_pos (by omega : (16 : Nat) ≤ 16)]
    show built _ 16 16 = shaID x
    rw [built_all, map_rd _ _ (by omega)]
    rfl
  case hs =>
    intro k hk
    have hb := built_length (f := fun i => rd (sha x) (i : Int)) (n := 16) (i := k) (by omega)
    dsimp only
    rw [dif_pos (by omega : k ≤ 16), dif_pos (by omega : k + 1 ≤ 16)]
    rw [bif_dt (by omega), bif_in (by omega) (by omega), gb (by omega) (by omega), bif_in (by omega) (by omega), bif_dt (by omega), bif_64 (by omega) (by omega)]
    refine congrArg some (congrArg Sum.inl (Prod.ext (by simp only; omega) (Arr.ext' ?_)))
    exact built_set (f := fun i => rd (sha x) (i : Int)) hk rfl
  rfl
end Go.Sat
end
section
namespace Go.Sat
open Go

theorem crcBits_out (k : Nat) (n : Int) : crcBits (k + 1) n = crcBit (crcBits k n) := by
  induction k generalizing n with
  | zero => rfl
  | succ k ih => exact ih (crcBit n)
theorem F145_eq : F145 () = some ⟨crcTab, crcTab_length⟩ := by
  unfold F145
  dsimp only [St, Item.den, Pat.den, Ty.den]
  rw [loop_count (o := (⟨crcTab, crcTab_length⟩ : Arr 256)) (fun k => ((k : Int), if h : k ≤ 256 then (⟨built crcCell 256 k, built_length h⟩ : Arr 256) else Arr.zero 256)) 256 ?h0 ?hs ?he]
  case h0 => rfl
  case he =>
    dsimp only
    rw [bif_df (by omega)]
    refine congrArg some (congrArg Sum.inr (Arr.ext' ?_))
    rw [dif_pos (by omega : (256 : Nat) ≤ 256)]
    show built _ 256 256 = crcTab
    rw [built_all]; rfl
  case hs =>
    intro k hk
    have hl := built_length (f := crcCell) (n := 256) (i := k) (by omega)
    dsimp only
    rw [dif_pos (by omega : k ≤ 256), dif_pos (by omega : k + 1 ≤ 256)]
    rw [bif_dt (by omega)]
    rw [loop_count (o := crcCell k) (fun j => (crcBits j (IntKind.u32.wrap k), (j : Int))) 8 ?h0 ?hs ?he]
    case h0 => rfl
    case he => dsimp only; rw [bif_df (by omega)]; rfl
    case hs =>
      intro j hj
      dsimp only
      rw [bif_dt (by omega)]
      have hb : (bif decide (bAnd IntKind.u32 (crcBits j (IntKind.u32.wrap k)) 1 = 1) then some (bXor IntKind.u32 (sShr IntKind.u32 (crcBits j (IntKind.u32.wrap k)) 1) 3988292384) else some (sShr IntKind.u32 (crcBits j (IntKind.u32.wrap k)) 1)) = some (crcBits (j + 1) (IntKind.u32.wrap k)) := by
        rw [crcBits_out]
        by_cases h : bAnd IntKind.u32 (crcBits j (IntKind.u32.wrap k)) 1 = 1
        · rw [bif_dt h, crcBit_odd h]
        · rw [bif_df h, crcBit_even h]
      rw [hb, Option.bind_some, bif_64 (by omega) (by omega)]
      exact congrArg some (congrArg Sum.inl (Prod.ext rfl (by simp only; omega)))
    rw [Option.bind_some, bif_in (by omega) (by omega), bif_dt (by omega), bif_64 (by omega) (by omega)]
    refine congrArg some (congrArg Sum.inl (Prod.ext (by simp only; omega) (Arr.ext' ?_)))
    exact built_set hk rfl
  rfl
theorem F130_eq (n : Int) (b : List Int) (hb : b.length < 1099511627776) : F130 ((n, b) : Int × List Int) = some (not32 (crcRun (not32 n) b)) := by
  unfold F130
  dsimp only [St, Item.den, Pat.den, Ty.den]
  rw [F145_eq, Option.bind_some]
  dsimp only [zi]
  rw [loop_count (o := crcRun (not32 n) b) (fun k => (crcRun (not32 n) (b.take k), (k : Int))) b.length ?h0 ?hs ?he]
  case h0 => rfl
  case he => dsimp only; rw [bif_df (by omega), List.take_length]
  case hs =>
    intro k hk
    have hx := xor8 (IntKind.u8.wrap (crcRun (not32 n) (b.take k))) (rd b k)
    have hc := crcTab_length
    dsimp only
    rw [bif_dt (by omega), bif_in (by omega) (by omega), gb (by omega) (by omega), bif_in hx.1 hx.2, gb hx.1 (by omega), bif_64 (by omega) (by omega)]
    refine congrArg some (congrArg Sum.inl (Prod.ext ?_ (by simp only; omega)))
    dsimp only
    rw [crcRun_take hk]
    rw [rd_nat]; rfl
  rfl
theorem F105_eq (b : List Int) (hb : b.length < 1099511627776) : F105 b = some (crcSum b) := by
  unfold F105
  erw [F130_eq 0 b hb]
  rfl
theorem F106_eq (n : Int) (h0 : 0 ≤ n) (h1 : n < 140737488355328) : F106 (((), n) : Unit × Int) = some [] := by
  unfold F106
  dsimp only [St, Item.den, Pat.den, Ty.den]
  rw [Int.sub_zero, bif_df (by omega), bif_64 (by omega) (by omega)]
  by_cases hz : 0 < n
  · rw [bif_dt hz, bif_t (c := decide (0 < n) && roomFor n.toNat 1) (by simp [roomFor, hz]; omega), bif_andt (by dsimp only [zi]; omega)]
    rfl
  · rw [bif_df hz]; rfl
theorem gbL {α β : Type} {l : List α} {i : Nat} {f : α → Option β} (h : i < l.length) : (l[Int.toNat (i : Int)]?.bind f) = f l[i] := by
  rw [Int.toNat_natCast, List.getElem?_eq_getElem h]; rfl
theorem flat_take {l : List (List Int)} {k : Nat} (h : k < l.length) : (l.take (k + 1)).flatten = (l.take k).flatten ++ l[k] := by
  rw [List.take_succ_eq_append_getElem h, List.flatten_append]; simp
theorem flat_le {l : List (List Int)} (k : Nat) : (l.take k).flatten.length ≤ l.flatten.length := by
  have : l.flatten = (l.take k).flatten ++ (l.drop k).flatten := by rw [← List.flatten_append, List.take_append_drop]
  rw [this, List.length_append]; omega
theorem F64_eq (l : List (List Int)) (hl : l.length < 1099511627776) (hb : l.flatten.length < 1099511627776) : F64 l = some l.flatten := by
  unfold F64
  dsimp only [St, Item.den, Pat.den, Ty.den]
  dsimp only [zi]
  rw [loop_count (o := (l.flatten.length : Int)) (fun k => (((l.take k).flatten.length : Int), (k : Int))) l.length ?h0 ?hs ?he]
  case h0 => rfl
  case he => dsimp only; rw [bif_df (by omega), List.take_length]
  case hs =>
    intro k hk
    have h1 := flat_le (l := l) (k + 1)
    have h2 := flat_take hk
    have h3 := congrArg List.length h2
    rw [List.length_append] at h3
    dsimp only
    rw [bif_dt (by omega), bif_in (by omega) (by omega), gbL hk, bif_64 (by omega) (by omega), bif_df (by omega), bif_64 (by omega) (by omega)]
    exact congrArg some (congrArg Sum.inl (Prod.ext (by simp only; omega) (by simp only; omega)))
  rw [Option.bind_some]
  erw [F106_eq _ (by omega) (by omega)]
  rw [Option.bind_some]
  rw [loop_count (o := l.flatten) (fun k => ((l.take k).flatten, (k : Int))) l.length ?h0 ?hs ?he]
  case h0 => rfl
  case he => dsimp only; rw [bif_df (by omega), List.take_length]
  case hs =>
    intro k hk
    have h1 := flat_le (l := l) (k + 1)
    have h2 := flat_take hk
    have h3 := congrArg List.length h2
    rw [List.length_append] at h3
    dsimp only
    rw [bif_dt (by omega), bif_in (by omega) (by omega), gbL hk, bif_room (by omega) (by omega), bif_64 (by omega) (by omega)]
    exact congrArg some (congrArg Sum.inl (Prod.ext h2.symm (by simp only; omega)))
  rfl
theorem F65_eq (b : List Int) (hb : b.length < 549755813888) : F65 b = some (gPut b) := by
  unfold F65
  rw [F105_eq b (by omega), Option.bind_some]
  erw [F64_eq _ (by simp) (by simp; omega)]
  simp [gPut, le4]
theorem F116_eq (a b : List Int) (ha : a.length < 1099511627776) : F116 ((a, b) : List Int × List Int) = some (decide (a = b)) := by
  unfold F116
  dsimp only [St, Item.den, Pat.den, Ty.den]
  dsimp only [zi]
  by_cases hl : a.length = b.length
  · rw [bif_nt (by omega)]
    refine loop_then (S := Int) (O := Bool ⊕ Unit) (fun r => r = some (decide (a = b))) (fun i => 0 ≤ i ∧ i ≤ a.length ∧ a.take i.toNat = b.take i.toNat) (fun i => (a.length - i).toNat) (fun o => (o = .inl false ∧ a ≠ b) ∨ (o = .inr () ∧ a = b)) ⟨by omega, by omega, rfl⟩ ?_ ?_
    · rintro i ⟨h1, h2, h3⟩
      by_cases hi : i < a.length
      · rw [bif_dt hi, bif_in h1 hi, gb h1 hi, bif_in h1 (by omega), gb h1 (by omega)]
        by_cases he : rd a i = rd b i
        · left
          rw [bif_nt he, bif_64 (by omega) (by omega)]
          refine ⟨i + 1, rfl, ⟨by omega, by omega, ?_⟩, by omega⟩
          have e1 : (i + 1).toNat = i.toNat + 1 := by omega
          have g1 : i.toNat < a.length := by omega
          have g2 : i.toNat < b.length := by omega
          rw [e1, List.take_succ_eq_append_getElem g1, List.take_succ_eq_append_getElem g2, h3]
          have : a[i.toNat] = b[i.toNat] := by simpa [rd, List.getD_eq_getElem?_getD, g1, g2] using he
          rw [this]
        · right
          rw [bif_nf he]
          exact ⟨_, rfl, .inl ⟨rfl, fun e => he (by rw [e])⟩⟩
      · right
        rw [bif_df hi]
        refine ⟨_, rfl, .inr ⟨rfl, ?_⟩⟩
        have e1 : i.toNat = a.length := by omega
        rw [e1] at h3
        rw [List.take_length, List.take_of_length_le (by omega)] at h3
        exact h3
    · rintro o (⟨rfl, h⟩ | ⟨rfl, h⟩)
      · simp [h]
      · simp [h]
  · rw [bif_nf (by omega)]
    have : a ≠ b := fun e => hl (by rw [e])
    simp [this]
theorem F117_eq (x : List Int) (h : x.length ≠ 0) (hb : x.length < 1099511627776) : F117 x = some x := by
  unfold F117
  rw [bif_nf h, bif_room (by omega) (by omega)]
  rfl
theorem zi4 (n : Nat) (h : 4 ≤ n) : ((n : Int) - 4).toNat = n - 4 := by omega
theorem F81_eq (x : List Int) (h4 : x.length ≠ 4) (hb : x.length < 549755813888) : F81 x = some ((gBody x, gErr x) : List Int × Int) := by
  unfold F81
  dsimp only [St, Item.den, Pat.den, Ty.den]
  dsimp only [zi]
  rw [bif_64 (by omega) (by omega)]
  by_cases hl : x.length < 4
  · rw [bif_nt (by omega)]
    have hn : ¬ gOk x := fun h => by have := h.1; omega
    rw [gBody_no hn, gErr_no hn]
  · have e1 : List.take (subN ((x.length : Int) - 4).toNat 0) (List.drop 0 x) = x.take (x.length - 4) := by rw [subN_eq, zi4 _ (by omega)]; rfl
    have hk : (x.take (x.length - 4)).length = x.length - 4 := by rw [List.length_take]; omega
    have hp := gPut_length (x.take (x.length - 4))
    rw [bif_nf (by omega), bif_and2 (by omega) (by omega), e1, F65_eq _ (by omega), Option.bind_some]
    erw [F116_eq _ _ (by omega)]
    rw [Option.bind_some]
    by_cases he : gPut (x.take (x.length - 4)) = x
    · have hk' : gOk x := ⟨by omega, he⟩
      rw [bif_f (c := !decide (gPut (x.take (x.length - 4)) = x)) (by simp [he]), bif_and2 (by omega) (by omega), F117_eq _ (by omega) (by omega), gBody_ok hk', gErr_ok hk']
      rfl
    · have hk' : ¬ gOk x := fun h => he h.2
      rw [bif_t (c := !decide (gPut (x.take (x.length - 4)) = x)) (by simp [he]), gBody_no hk', gErr_no hk']
end Go.Sat
end
section
namespace Go.Sat
open Go

theorem F108_eq (x : List Int) (hb : x.length < 1099511627776) : F108 x = some (refSum x) := by
  unfold F108
  dsimp only [St, Item.den, Pat.den, Ty.den]
  dsimp only [zi]
  rw [loop_count (o := refRun 4294967295 x) (fun k => (refRun 4294967295 (x.take k), (k : Int))) x.length ?h0 ?hs ?he]
  case h0 => rfl
  case he => dsimp only; rw [bif_df (by omega), List.take_length]
  case hs =>
    intro k hk
    dsimp only
    rw [bif_dt (by omega)]
    rw [loop_count (o := refByte (refRun 4294967295 (x.take k)) (rd x k)) (fun j => (refBits (rd x k) j (refRun 4294967295 (x.take k)), (j : Int))) 8 ?h0 ?hs ?he]
    case h0 => rfl
    case he => dsimp only; rw [bif_df (by omega)]; rfl
    case hs =>
      intro j hj
      dsimp only
      rw [bif_dt (by omega), bif_in (by omega) (by omega), gb (by omega) (by omega), bif_dt (by omega)]
      have hbb : ∀ n : Int, (bif !decide (Int.tmod n 2 = (IntKind.u32.wrap (sShr IntKind.u8 (rd x k) j)).tmod 2) then some (bXor IntKind.u32 (sShr IntKind.u32 n 1) 3988292384) else some (sShr IntKind.u32 n 1)) = some (refBit (rd x k) j n) := by
        intro n
        unfold refBit
        by_cases h : Int.tmod n 2 = (IntKind.u32.wrap (sShr IntKind.u8 (rd x k) j)).tmod 2
        · rw [bif_nt h, if_neg (by simp [h])]
        · rw [bif_nf h, if_pos h]
      rw [hbb, Option.bind_some, bif_64 (by omega) (by omega)]
      exact congrArg some (congrArg Sum.inl (Prod.ext rfl (by simp only; omega)))
    rw [Option.bind_some, bif_64 (by omega) (by omega)]
    refine congrArg some (congrArg Sum.inl (Prod.ext ?_ (by simp only; omega)))
    dsimp only
    rw [refRun_take hk, rd_nat]
  rfl
theorem F68_eq (x : List Int) (hB : Bytes x) (hb : x.length < 549755813888) : F68 x = some (gPut x) := by
  unfold F68
  rw [F108_eq x (by omega), Option.bind_some, bif_room (by omega) (by omega), bif_room (by simp; omega) (by simp; omega), refSum_eq hB]
  rfl
theorem F21_eq (a b : List Int) (ha : Bytes a) (hb : Bytes b) : F21 ((a, b) : List Int × List Int) = some (decide (a = b)) := by
  unfold F21
  exact congrArg some (bytesOf_beq ha hb)
theorem F32_eq (x : List Int) (hb : x.length < 549755813888) : F32 x = some x := by
  unfold F32
  rw [bif_room (by omega) (by omega)]
  rfl
theorem F87_eq (x : List Int) (hB : Bytes x) (hb : x.length < 549755813888) : F87 x = some ((gBody x, gErr x) : List Int × Int) := by
  unfold F87
  dsimp only [St, Item.den, Pat.den, Ty.den]
  dsimp only [zi]
  by_cases hl : x.length < 4
  · rw [bif_dt (by omega)]
    have hn : ¬ gOk x := fun h => by have := h.1; omega
    rw [gBody_no hn, gErr_no hn]
  · have e1 : List.take (subN ((x.length : Int) - 4).toNat 0) (List.drop 0 x) = x.take (x.length - 4) := by rw [subN_eq, zi4 _ (by omega)]; rfl
    have hk : (x.take (x.length - 4)).length = x.length - 4 := by rw [List.length_take]; omega
    rw [bif_df (by omega), bif_64 (by omega) (by omega), bif_and2 (by omega) (by omega), e1, bif_room (by omega) (by omega), List.nil_append, F68_eq _ (hB.take _) (by omega), Option.bind_some]
    rw [bytesOf_beq (gPut_bytes (hB.take _)) hB]
    by_cases he : gPut (x.take (x.length - 4)) = x
    · have hk' : gOk x := ⟨by omega, he⟩
      rw [bif_nt he, gBody_ok hk', gErr_ok hk']
    · have hk' : ¬ gOk x := fun h => he h.2
      rw [bif_nf he, gBody_no hk', gErr_no hk']
end Go.Sat
end
section
namespace Go.Sat
open Go

theorem F22_eq (n : Int) : F22 n = some (sizeP n) := by
  unfold F22
  by_cases h1 : n < 1
  · rw [bif_nt h1, sizeP, if_pos (by omega)]
  · rw [bif_nf h1]
    by_cases h2 : 1024 < n
    · rw [bif_dt h2, sizeP, if_pos (by omega)]
    · rw [bif_df h2, bif_64 (by omega) (by omega), sizeP, if_neg (by omega)]
theorem F23_eq (n : Int) : F23 n = some (sizeP n) := by
  unfold F23
  by_cases h1 : n < 1
  · rw [bif_nt h1, sizeP, if_pos (by omega)]
  · rw [bif_nf h1]
    by_cases h2 : 1024 < n
    · rw [bif_dt h2, sizeP, if_pos (by omega)]
    · rw [bif_df h2, bif_64 (by omega) (by omega), sizeP, if_neg (by omega)]
theorem hd4_eq {n : Nat} (h : n < 65536) : [IntKind.u8.wrap (sShr .i64 (n : Int) 8), IntKind.u8.wrap (n : Int), bXor .u8 255 (IntKind.u8.wrap (sShr .i64 (n : Int) 8)), bXor .u8 255 (IntKind.u8.wrap (n : Int))] = hd4 n := by
  rw [hd_h h, hd_l, not8 (by omega), not8 (by omega)]
  rfl
theorem F63_eq {n : Nat} (h : n < 65536) : F63 (n : Int) = some ⟨headL n, headL_length n⟩ := by
  unfold F63
  dsimp only [St, Item.den, Pat.den, Ty.den]
  rw [hd4_eq h, F105_eq _ (by simp [hd4]), Option.bind_some]
  refine congrArg some (Arr.ext' ?_)
  have := hd4_eq h
  show [_, _, _, _, _, _] = headL n
  unfold headL
  rw [← this]
  rfl
theorem F67_eq {n : Nat} (h : n < 65536) : F67 (n : Int) = some (headL n) := by
  have e1 : Int.tdiv (n : Int) 256 = ((n / 256 : Nat) : Int) := tdiv_nat n 256
  have e2 : Int.tmod (n : Int) 256 = ((n % 256 : Nat) : Int) := tmod_nat n 256
  have e3 : [IntKind.u8.wrap (Int.tdiv (n : Int) 256), IntKind.u8.wrap (Int.tmod (n : Int) 256), IntKind.u8.wrap (255 - Int.tdiv (n : Int) 256), IntKind.u8.wrap (255 - Int.tmod (n : Int) 256)] = hd4 n := by
    rw [hd_h' h, hd_l', hd_nh h, hd_nl]; rfl
  unfold F67
  dsimp only [St, Item.den, Pat.den, Ty.den]
  simp only [e3]
  rw [e1, e2, bif_64 (by omega) (by omega), bif_64 (by omega) (by omega), bif_64 (by omega) (by omega), bif_64 (by omega) (by omega)]
  rw [F108_eq _ (by simp [hd4]), refSum_eq (hd4_bytes h), Option.bind_some, bif_room (by simp [hd4]) (by simp [hd4])]
  rfl
theorem eqT_arr {k : IntKind} {n : Nat} (a b : Arr n) : eqT (.arr k n) a b = decide (a = b) := by
  unfold eqT; simp
theorem arr_of_inj {n : Nat} {a b : List Int} (ha : a.length = n) (hb : b.length = n) : (Arr.of n a = Arr.of n b) ↔ a = b := by
  constructor
  · intro h
    have := congrArg Arr.l h
    rwa [Arr.of_l ha, Arr.of_l hb] at this
  · rintro rfl; rfl
theorem arr_eq_iff {n : Nat} {a b : Arr n} : a = b ↔ a.l = b.l := ⟨fun h => by rw [h], Arr.ext'⟩
end Go.Sat
end
