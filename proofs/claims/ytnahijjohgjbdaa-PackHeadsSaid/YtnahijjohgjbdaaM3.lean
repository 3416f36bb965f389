/-
  Part 3 of what the laws of this set are proved with: an engine that reads code off into pure functions, and what those functions compute. No condition.
-/
import Derived.Test.YtnahijjohgjbdaaM2
set_option linter.unusedVariables false
section
namespace Go.Sat
open Go

/-! ### the frame -/
structure AtV (n : Nat) (ds : List Deferred) (φ : Ph) (A : Nat → Prop) (Ev : VEnv) (a : Act) : Prop where
  size : a.tmps.size = n
  defers : a.defers = ds
  slot : ∀ t x, Ev.get t = some x → ∃ v, a.tmps[t]? = some v ∧ RelV φ A x v
theorem VEnv.get_put (E : VEnv) (d t : Nat) (v : VV) : (E.put (some d) v).get t = if d = t then some v else E.get t := by
  show VEnv.get ((d, v) :: E) t = _
  by_cases h : d = t
  · subst h; simp [VEnv.get]
  · simp only [VEnv.get, nbeq h, cond_false, if_neg h]
theorem AtV.put {n : Nat} {ds : List Deferred} {φ : Ph} {A : Nat → Prop} {Ev : VEnv} {a : Act} (h : AtV n ds φ A Ev a) {dst : Option Tmp} (hd : dstOk n dst = true) {x : VV} {v : Value} (hv : RelV φ A x v) : AtV n ds φ A (Ev.put dst x) (a.put dst v) := by
  cases dst with
  | none => exact h
  | some d =>
    have hdn : d < n := dstOk_spec hd d rfl
    refine ⟨by simp [Act.put, h.size], by simp [Act.put, h.defers], fun t y ht => ?_⟩
    rw [VEnv.get_put] at ht
    split at ht
    · rename_i e
      subst e; cases ht
      exact ⟨v, by simp [Act.put, h.size, hdn], hv⟩
    · rename_i e
      obtain ⟨u, hu, hr⟩ := h.slot t y ht
      refine ⟨u, ?_, hr⟩
      simp only [Act.put]
      rw [Array.getElem?_setIfInBounds_ne e]; exact hu
theorem AtV.up {n : Nat} {ds : List Deferred} {φ φ' : Ph} {A A' : Nat → Prop} {Ev : VEnv} {a : Act} (h : AtV n ds φ A Ev a) (ha : Agree φ φ' A A') : AtV n ds φ' A' Ev a :=
  ⟨h.size, h.defers, fun t x ht => let ⟨v, h1, h2⟩ := h.slot t x ht; ⟨v, h1, h2.up ha⟩⟩

/-- the frame, as the first engine has it -/
def actEnv (a : Act) : Env := (List.range a.tmps.size).map fun t => (t, a.tmps.getD t undef)
theorem actEnv_get (f : Nat → Value) (t : Nat) : ∀ ks : List Nat, Env.get (ks.map fun k => (k, f k)) t = if t ∈ ks then f t else undef := by
  intro ks
  induction ks with
  | nil => rfl
  | cons k ks ih =>
    rw [List.map_cons]
    by_cases h : k = t
    · subst h; simp [Env.get]
    · simp only [Env.get, nbeq h, cond_false, ih, List.mem_cons]
      have : (t = k ∨ t ∈ ks) ↔ t ∈ ks := ⟨fun h' => h'.resolve_left (Ne.symm h), .inr⟩
      simp only [this]
theorem actEnv_ev (a : Act) (x : Operand) : (actEnv a).ev x = a.eval x := by
  cases x with
  | tmp t =>
    show Env.get _ t = a.tmps.getD t undef
    unfold actEnv
    rw [actEnv_get (fun t => a.tmps.getD t undef)]
    split
    · rfl
    · rename_i h
      have : ¬ t < a.tmps.size := by simpa using h
      simp [Array.getD_eq_getD_getElem?, Array.getElem?_eq_none (Nat.le_of_not_lt this)]
  | const v => rfl
  | global g => rfl
  | func f => rfl
theorem AtV.or {n : Nat} {ds : List Deferred} {φ : Ph} {A : Nat → Prop} {Ev : VEnv} {a : Act} (h : AtV n ds φ A Ev a) (x : Operand) (vv : VV) (hx : evV Ev x = some vv) : RelV φ A vv ((actEnv a).ev x) := by
  rw [actEnv_ev]
  cases x with
  | tmp t =>
    obtain ⟨v, h1, h2⟩ := h.slot t vv hx
    simpa [Act.eval, Array.getD_eq_getD_getElem?, h1] using h2
  | const v => exact evC_spec hx φ A
  | global g => cases hx
  | func f => cases hx; exact ⟨[], [], rfl, trivial, trivial⟩

section
variable {r : Option Nat} {P : Program} {G : Caller} {n : Nat} {ds : List Deferred} {ops : Array Oper} {Q : Exit → Act → World → Prop}

theorem does_wp {o : Oper} {a : Act} {w : World} {K : Value → World → Prop} {K' : Act → World → Prop} (hd : ∀ c, o.op ≠ .defer c) (h : Does P o (actEnv a) w K) (hk : ∀ v w', K v w' → K' (a.put o.dst v) w') : o.wpIn (FW r) 0 P a w K' Q := by
  have he : execOp (actEnv a).ev o = execOp a.eval o := by rw [show (actEnv a).ev = a.eval from funext (actEnv_ev a)]
  refine ⟨about_FW, ?_⟩
  rw [show (FW r).round = r from rfl, Oper.semAt_eq _ _ _ hd, ← he]
  unfold Does at h
  split at h
  · rename_i v w' hrun; rw [hrun]; exact hk _ _ h
  · rename_i w' hrun; rw [hrun]; exact hk _ _ h
  · rename_i f args w' hrun
    rw [hrun]
    refine ⟨fun h => by simp [FW] at h, (callsIn_FW r).2 (Calls.mono h ?_)⟩
    rintro e w2 ⟨v, rfl, hkk⟩
    exact hk v w2 hkk
  · exact h.elim

def guardV (ops : Array Oper) (Ev : VEnv) (o : Oper) : Option Bool :=
  match o.guard with
  | none => some true
  | some (j, want) => (match (ops[j]?).bind (·.dst) with
    | some d => (match Ev.get d with | some (.a (.one (.b (.bool b)))) => some (match want with | true => b | false => !b) | _ => none)
    | none => none)
theorem guardV_spec {Ev : VEnv} {o : Oper} {b : Bool} {tmps : Array Value} (h : guardV ops Ev o = some b) (hs : ∀ j want d, o.guard = some (j, want) → (ops[j]?).bind (·.dst) = some d → ∀ x, Ev.get d = some (.bool x) → tmps[d]? = some (.bool x)) :
    Region.wanted o (yielded ops tmps) = b := by
  unfold guardV at h
  unfold Region.wanted
  cases hg : o.guard with
  | none => rw [hg] at h; simpa using h
  | some jw =>
    obtain ⟨j, want⟩ := jw
    rw [hg] at h
    simp only at h ⊢
    split at h
    · rename_i d hd
      split at h
      · rename_i x hx
        cases h
        unfold yielded
        rw [hd, Option.bind_some, hs j want d hg hd x hx]
        cases want <;> cases x <;> rfl
      · cases h
    · cases h
def isDefer : Op → Bool | .defer _ => true | _ => false
def isGuard (o : Oper) : Bool := o.guard.isSome

/-! ### plain regions -/
/-- the larger heap has it too -/
def Sub (H H1 : Hp) : Prop := ∀ j o, H.get j = some o → H1.get j = some o
theorem Sub.app {H H1 : Hp} (h : Sub H H1) (u : Hp) : Sub (u ++ H) (u ++ H1) := by
  intro j o hj
  rw [Hp.get_app] at hj ⊢
  cases hu : u.get j with
  | some x => rw [hu] at hj; exact hj
  | none => rw [hu] at hj; exact h j o hj
theorem Sub.refl (H : Hp) : Sub H H := fun _ _ h => h
def rdOk (H : Hp) (rd : List Nat) : Bool := rd.all fun j => (H.get j).isSome
theorem Sub.rd {H H1 : Hp} (h : Sub H H1) {rd : List Nat} (hr : rdOk H rd = true) : ∀ j ∈ rd, H1.get j = H.get j := by
  intro j hj
  have := List.all_eq_true.1 hr j hj
  cases hg : H.get j with
  | none => rw [hg] at this; cases this
  | some o => exact h j o hg
/-- what is known of a guard, once it has been asked -/
def refE (ops : Array Oper) (E : VEnv) (o : Oper) (b : Bool) : VEnv :=
  match o.guard with
  | none => E
  | some (j, want) => (match (ops[j]?).bind (·.dst) with
    | some d => E.put (some d) (VV.bool (bif b then want else !want))
    | none => E)
theorem VEnv.get_put_same {E : VEnv} {d : Nat} {v : VV} (h : E.get d = some v) (t : Nat) : (E.put (some d) v).get t = E.get t := by
  rw [VEnv.get_put]
  split
  · rename_i e; subst e; exact h.symm
  · rfl
theorem refE_get {ops : Array Oper} {E : VEnv} {o : Oper} {b : Bool} (h : guardV ops E o = some b) (t : Nat) : (refE ops E o b).get t = E.get t := by
  unfold guardV at h
  unfold refE
  cases hg : o.guard with
  | none => rfl
  | some jw =>
    obtain ⟨j, want⟩ := jw
    rw [hg] at h
    simp only at h ⊢
    split at h
    · rename_i d hd
      split at h
      · rename_i x hx
        cases h
        refine VEnv.get_put_same ?_ t
        rw [hx]
        cases want <;> cases x <;> rfl
      · cases h
    · cases h
theorem guardV_congr {ops : Array Oper} {E E1 : VEnv} (o : Oper) (h : ∀ t, E1.get t = E.get t) : guardV ops E1 o = guardV ops E o := by
  unfold guardV
  cases o.guard with
  | none => rfl
  | some jw =>
    obtain ⟨j, want⟩ := jw
    simp only
    cases (ops[j]?).bind (·.dst) with
    | none => rfl
    | some d => simp only [h d]
theorem AtV.congr {n : Nat} {ds : List Deferred} {φ : Ph} {A : Nat → Prop} {E E1 : VEnv} {a : Act} (h : AtV n ds φ A E a) (he : ∀ t, E1.get t = E.get t) : AtV n ds φ A E1 a := ⟨h.size, h.defers, fun t x ht => h.slot t x ((he t).symm.trans ht)⟩
/-! ### calls of yield -/
def isRec : Obj → Bool
  | .rcd _ _ => true
  | _ => false
def noRecB (u : Hp) : Bool := u.all fun p => !isRec p.2
def NoRec (u : Hp) : Prop := ∀ p ∈ u, isRec p.2 = false
theorem noRecB_spec {u : Hp} (h : noRecB u = true) : NoRec u := fun p hp => by
  have := List.all_eq_true.1 h p hp
  simpa using this
theorem NoRec.app {u v : Hp} (h : NoRec u) (k : NoRec v) : NoRec (u ++ v) := fun p hp => (List.mem_append.1 hp).elim (h p) (k p)
theorem hp_mem {u : Hp} {j : Nat} {o : Obj} (h : u.get j = some o) : (j, o) ∈ u := by
  induction u with
  | nil => cases h
  | cons p u ih =>
    obtain ⟨k, x⟩ := p
    by_cases e : k = j
    · subst e; rw [get_self] at h; cases h; exact List.mem_cons_self ..
    · rw [get_ne _ _ e] at h; exact List.mem_cons_of_mem _ (ih h)
/-- the records that there are: each under its name, or gone -/
def Inv (L : List (Nat × RecD)) (H : Hp) : Prop := ∀ p ∈ L, ∃ o, H.get p.1 = some o ∧ (isRec o = true → ∃ bz, o = .rcd bz p.2)
theorem Inv.app {L : List (Nat × RecD)} {H u : Hp} (h : Inv L H) (hn : NoRec u) : Inv L (u ++ H) := fun p hp => by
  obtain ⟨o, h1, h2⟩ := h p hp
  rw [Hp.get_app]
  cases hu : u.get p.1 with
  | none => exact ⟨o, h1, h2⟩
  | some x =>
    refine ⟨x, rfl, fun hr => ?_⟩
    have := hn _ (hp_mem hu)
    rw [hr] at this; cases this
theorem Inv.lay {L : List (Nat × RecD)} {H : Hp} {j : Nat} {o : Obj} (h : Inv L H) (hj : ∀ p ∈ L, p.1 ≠ j) : Inv L ((j, o) :: H) := fun p hp => by
  rw [get_ne _ _ (Ne.symm (hj p hp))]; exact h p hp
theorem Inv.ne {L : List (Nat × RecD)} {H : Hp} {j : Nat} (h : Inv L H) (hj : H.get j = none) : ∀ p ∈ L, p.1 ≠ j := fun p hp e => by
  obtain ⟨o, h1, _⟩ := h p hp
  rw [e, hj] at h1; cases h1
structure GoodG (P : Program) (L : List (Nat × RecD)) (G : Caller) : Prop where
  fn : GoodF P G
  yld : ∀ j args H nx r, PT.Ends (G (.yld j) args H nx) r → Inv L H → nx ≤ r.nx ∧ ∃ M, r.nx ≤ M ∧ ∀ (A : Nat → Prop) (φ : Ph) (H1 : Hp) (w : World) (vals : List Value) (g : Nat), All2 (fun x v => RelV φ A x v) args vals → RepH A φ H1 w → (∀ j ∈ r.rd, H1.get j = H.get j) → Fresh A nx M → A j → (φ j).addr = some ⟨g, 0, none⟩ →
    ∃ rec, LoopAt w g rec ∧ vals.length = rec.params.size ∧ Round P g rec vals w (fun v w' => ∃ A' φ', RelV φ' A' r.v v ∧ Stp A φ H1 w A' φ' (r.u ++ H1) w' ∧ ∀ j, A' j → A j ∨ (nx ≤ j ∧ j < r.nx))
def yldOf (E : VEnv) (o : Oper) : Option (Nat × List VV) := match o.op with
  | .call c => (match c.callee with
    | .value x => (match evV E x, allSome (c.args.toList.map (evV E)) with
      | some (.a (.one (.yld j))), some vs => some (j, vs)
      | _, _ => none)
    | _ => none)
  | _ => none
def stepY (P : Program) (G : Caller) (E : VEnv) (H : Hp) (nx : Nat) (o : Oper) : PT SR := match yldOf E o with
  | some (j, vs) => G (.yld j) vs H nx
  | none => stepV P G E H nx o
theorem stepY_spec {L : List (Nat × RecD)} (hG : GoodG P L G) {E : VEnv} {H : Hp} {lo : Nat} {o : Oper} {s : SR} (hI : Inv L H) (h : PT.Ends (stepY P G E H lo o) s) : lo ≤ s.nx ∧ ∃ M, s.nx ≤ M ∧
    ∀ {r : Option Nat} {Q : Exit → Act → World → Prop} {A : Nat → Prop} {φ : Ph} {H1 : Hp} {w : World} {a : Act} {K' : Act → World → Prop}, isDefer o.op = false → OR φ A E (actEnv a) o → RepH A φ H1 w → (∀ j ∈ s.rd, H1.get j = H.get j) → Fresh A lo M →
      (∀ v w', (∃ A' φ', RelV φ' A' s.v v ∧ Stp A φ H1 w A' φ' (s.u ++ H1) w' ∧ ∀ j, A' j → A j ∨ (lo ≤ j ∧ j < s.nx)) → K' (a.put o.dst v) w') → o.wpIn (FW r) 0 P a w K' Q := by
  unfold stepY at h
  split at h
  · rename_i j vs hy
    obtain ⟨hle, M, hM, hr⟩ := hG.yld _ _ _ _ _ h hI
    refine ⟨hle, M, hM, fun {r Q A φ H1 w a K'} hdf hO hH hrd hf hk => ?_⟩
    unfold yldOf at hy
    split at hy
    · rename_i c hop
      split at hy
      · rename_i x hcal
        split at hy
        · rename_i j' vs' ex hvs
          cases hy
          have hops : ∀ y, y = x ∨ y ∈ c.args.toList → y ∈ o.op.operands := by
            intro y hy
            rw [hop]
            show y ∈ c.operands
            unfold Call.operands
            rw [hcal]
            rcases hy with rfl | hy
            · exact Array.mem_append.2 (.inl (by simp))
            · exact Array.mem_append.2 (.inr (Array.mem_toList_iff.1 hy))
          obtain ⟨hAj, g, hg, hev⟩ := hO x (hops x (.inl rfl)) _ ex
          have hargs := allSome_spec (E := actEnv a) (A := A) (φ := φ) hvs fun y hy => hO y (hops y (.inr hy))
          obtain ⟨rec, hL, hsz, hrd'⟩ := hr A φ H1 w _ g hargs hH hrd hf hAj hg
          have hL' : w.heap[g]? = some (.loop rec) := hL
          refine ⟨about_FW, ?_⟩
          have hrun : (execOp (actEnv a).ev o).run P w = .ok (.round g rec.fn ((rec.params.zip ((c.args.toList.map (actEnv a).ev)).toArray).foldl (fun tmps (t, a) => tmps.setIfInBounds t a) rec.tmps) rec.assign rec.body) w := by
            have hyy := run_yield (P := P) (args := (c.args.toList.map (actEnv a).ev).toArray) hL' (by simpa using hsz)
            have harr : c.args.map (actEnv a).ev = (c.args.toList.map (actEnv a).ev).toArray := by apply Array.ext'; simp
            unfold execOp; rw [hop]
            simp only [resolve, hcal, hev, harr, Deferred.ofValue, Sem.run_bind, Sem.run_pure, Result.andThen_ok, invoke, Array.empty_append]
            exact hyy
          have he : execOp (actEnv a).ev o = execOp a.eval o := by rw [show (actEnv a).ev = a.eval from funext (actEnv_ev a)]
          have hd : ∀ c, o.op ≠ .defer c := fun c e => by rw [e] at hdf; cases hdf
          rw [show (FW r).round = r from rfl, Oper.semAt_eq _ _ _ hd, ← he, hrun]
          refine ⟨fun h => by simp [FW] at h, RoundIn.mono (hrd' r) ?_⟩
          rintro e w2 ⟨v, rfl, hkk⟩
          exact hk v w2 hkk
        · cases hy
      · cases hy
    · cases hy
  · obtain ⟨hle, hs⟩ := stepV_spec hG.fn h
    exact ⟨hle, s.nx, Nat.le_refl _, fun {r Q A φ H1 w a K'} hdf hO hH hrd hf hk => does_wp (fun c e => by rw [e] at hdf; cases hdf) (hs A φ H1 w (actEnv a) hO hH hrd hf) hk⟩
def runOps (P : Program) (G : Caller) (n : Nat) (ops : Array Oper) : List Oper → VEnv → Hp → Nat → PT (VEnv × Hp × Nat)
  | [], E, H, nx => .ret (E, H, nx)
  | o :: r, E, H, nx =>
    bif dstOk n o.dst && !isDefer o.op then
      (match guardV ops E o with
       | some b =>
         bif isGuard o then
           .ite b ((stepY P G (refE ops E o true) H nx o).andThen fun s => bif rdOk H s.rd && noRecB s.u then runOps P G n ops r ((refE ops E o true).put o.dst s.v) (s.u ++ H) s.nx else .fail) (runOps P G n ops r ((refE ops E o false).put o.dst VV.und) H nx)
         else (stepY P G E H nx o).andThen fun s => bif rdOk H s.rd && noRecB s.u then runOps P G n ops r (E.put o.dst s.v) (s.u ++ H) s.nx else .fail
       | none => .fail)
    else .fail
/-- what a stretch of code comes to -/
def Comes (n : Nat) (ds : List Deferred) (A : Nat → Prop) (φ : Ph) (H : Hp) (w : World) (E' : VEnv) (H' : Hp) (nx nx' : Nat) (a' : Act) (w' : World) : Prop :=
  ∃ A' φ', AtV n ds φ' A' E' a' ∧ Stp A φ H w A' φ' H' w' ∧ ∀ j, A' j → A j ∨ (nx ≤ j ∧ j < nx')
theorem Comes.trans {A A1 : Nat → Prop} {φ φ1 : Ph} {H H1 : Hp} {w w1 : World} {E' : VEnv} {H' : Hp} {nx nx1 nx' : Nat} {a' : Act} {w' : World} (h : Stp A φ H w A1 φ1 H1 w1) (ho : ∀ j, A1 j → A j ∨ (nx ≤ j ∧ j < nx1)) (h1 : nx ≤ nx1) (h2 : nx1 ≤ nx') (k : Comes n ds A1 φ1 H1 w1 E' H' nx1 nx' a' w') : Comes n ds A φ H w E' H' nx nx' a' w' :=
  let ⟨A', φ', k1, k2, k3⟩ := k; ⟨A', φ', k1, h.trans k2, fun j hj => (k3 j hj).elim (fun h => (ho j h).imp id fun h => ⟨h.1, by omega⟩) fun h => .inr ⟨by omega, h.2⟩⟩
theorem Fresh.after {A A1 : Nat → Prop} {nx nx1 nx' : Nat} (h : Fresh A nx nx') (ho : ∀ j, A1 j → A j ∨ (nx ≤ j ∧ j < nx1)) (h1 : nx ≤ nx1) : Fresh A1 nx1 nx' :=
  fun j h2 h3 hA => (ho j hA).elim (h j (by omega) h3) fun h => by omega
theorem Fresh.before {A : Nat → Prop} {nx nx1 nx' : Nat} (h : Fresh A nx nx') (h1 : nx1 ≤ nx') : Fresh A nx nx1 := fun j h2 h3 => h j h2 (by omega)
theorem notDefer {o : Op} (h : isDefer o = false) : ∀ c, o ≠ .defer c := fun c e => by subst e; cases h
theorem runOps_spec {L : List (Nat × RecD)} (hG : GoodG P L G) : ∀ {l : List Oper} {E E' : VEnv} {H H' : Hp} {nx nx' : Nat}, PT.Ends (runOps P G n ops l E H nx) (E', H', nx') → Inv L H → nx ≤ nx' ∧ ∃ u M, H' = u ++ H ∧ NoRec u ∧ nx' ≤ M ∧ ∀ {r : Option Nat} {ds : List Deferred} {Q : Exit → Act → World → Prop} {H1 : Hp} {A : Nat → Prop} {φ : Ph} {a : Act} {w : World}, Sub H H1 → AtV n ds φ A E a → RepH A φ H1 w → Fresh A nx M →
    (∀ a' w', Comes n ds A φ H1 w E' (u ++ H1) nx nx' a' w' → Q .normal a' w') → wpListIn (FW r) 0 P ops Q l a w := by
  intro l
  induction l with
  | nil =>
    intro E E' H H' nx nx' h _
    cases h
    exact ⟨Nat.le_refl _, [], nx, rfl, fun p hp => (by cases hp), Nat.le_refl _, fun {r ds Q H1 A φ a w} hs hA hH hn hk => hk a w ⟨A, φ, hA, Stp.refl hH, fun _ h => .inl h⟩⟩
  | cons o l ih =>
    intro E E' H H' nx nx' h hI
    unfold runOps at h
    cases hc : dstOk n o.dst && !isDefer o.op with
    | false => rw [hc] at h; exact h.elim
    | true =>
      rw [hc] at h
      simp only [Bool.and_eq_true, Bool.not_eq_true'] at hc
      obtain ⟨hd, hdf⟩ := hc
      simp only [cond_true] at h
      split at h
      · rename_i b hb
        have hw : ∀ {ds : List Deferred} {φ : Ph} {A : Nat → Prop} {a : Act}, AtV n ds φ A E a → Region.wanted o (yielded ops a.tmps) = b := fun hA => guardV_spec hb fun j want d hg hd x hx => by
          obtain ⟨v, h1, h2⟩ := hA.slot d _ hx
          rw [h1]; exact congrArg some h2
        have yes : ∀ E1 : VEnv, (∀ t, E1.get t = E.get t) → b = true → PT.Ends ((stepY P G E1 H nx o).andThen fun s => bif rdOk H s.rd && noRecB s.u then runOps P G n ops l (E1.put o.dst s.v) (s.u ++ H) s.nx else .fail) (E', H', nx') → nx ≤ nx' ∧ ∃ u M, H' = u ++ H ∧ NoRec u ∧ nx' ≤ M ∧ ∀ {r : Option Nat} {ds : List Deferred} {Q : Exit → Act → World → Prop} {H1 : Hp} {A : Nat → Prop} {φ : Ph} {a : Act} {w : World}, Sub H H1 → AtV n ds φ A E a → RepH A φ H1 w → Fresh A nx M →
            (∀ a' w', Comes n ds A φ H1 w E' (u ++ H1) nx nx' a' w' → Q .normal a' w') → wpListIn (FW r) 0 P ops Q (o :: l) a w := by
          intro E1 hE1 hb h
          obtain ⟨s, h1, h2⟩ := PT.ends_then.1 h
          cases hrd : rdOk H s.rd && noRecB s.u with
          | false => rw [hrd] at h2; exact h2.elim
          | true =>
            rw [hrd] at h2
            have hrd' := Bool.and_eq_true_iff.1 hrd
            have hnr := noRecB_spec hrd'.2
            obtain ⟨hle, M1, hM1, hs⟩ := stepY_spec hG hI h1
            obtain ⟨hle2, u, M2, hu, hnu, hM2, hr⟩ := ih h2 (hI.app hnr)
            refine ⟨Nat.le_trans hle hle2, u ++ s.u, max M1 M2, by rw [hu, List.append_assoc], hnu.app hnr, Nat.le_trans hM2 (Nat.le_max_right _ _), fun {r ds Q H1 A φ a w} hsub hA hH hn hk => ?_⟩
            have hA1 := hA.congr hE1
            unfold wpListIn
            rw [if_pos ((hw hA).trans hb)]
            refine hs hdf (fun x hx vv hv => hA1.or x vv hv) hH (hsub.rd hrd'.1) (hn.before (Nat.le_max_left _ _)) ?_
            rintro v w1 ⟨A1, φ1, hr1, hst, hon⟩
            refine hr (hsub.app s.u) ((hA1.up hst.agree).put hd hr1) hst.rep ((hn.after hon hle).before (Nat.le_max_right _ _)) fun a' w' hcm => hk a' w' ?_
            rw [List.append_assoc]
            exact hcm.trans hst hon hle hle2
        cases hgd : isGuard o with
        | false =>
          rw [hgd] at h
          have : o.guard = none := by unfold isGuard at hgd; simpa using hgd
          refine yes E (fun _ => rfl) ?_ h
          unfold guardV at hb
          rw [this] at hb
          simpa using hb.symm
        | true =>
          rw [hgd] at h
          rcases h with ⟨hb1, h⟩ | ⟨hb1, h⟩
          · exact yes _ (fun t => refE_get (hb.trans (congrArg some hb1)) t) hb1 h
          · obtain ⟨hle2, u, M, hu, hnu, hM, hr⟩ := ih h hI
            refine ⟨hle2, u, M, hu, hnu, hM, fun {r ds Q H1 A φ a w} hsub hA hH hn hk => ?_⟩
            unfold wpListIn
            rw [if_neg (by rw [hw hA, hb1]; simp)]
            exact ⟨about_FW, hr hsub ((hA.congr fun t => refE_get (hb.trans (congrArg some hb1)) t).put hd (x := VV.und) trivial) hH hn hk⟩
      · exact h.elim

/-! ### regions that draw their order -/
def keysH (u : Hp) : List Nat := u.map (·.1)
theorem get_keys {u : Hp} {q : Nat} (h : q ∉ keysH u) : u.get q = none := by
  induction u with
  | nil => rfl
  | cons x u ih =>
    obtain ⟨k, o⟩ := x
    simp only [keysH, List.map_cons, List.mem_cons, not_or] at h
    rw [get_ne _ _ (Ne.symm h.1)]
    exact ih h.2
structure CE where
  E : VEnv
  H : Hp
  nx : Nat
  o : Oper
  ex : Bool
  v : VV
  u : Hp
  rd : List Nat
  nx' : Nat
def runD (P : Program) (G : Caller) (n : Nat) (ops : Array Oper) : List Oper → VEnv → Hp → Nat → PT (VEnv × Hp × Nat × List CE)
  | [], E, H, nx => .ret (E, H, nx, [])
  | o :: r, E, H, nx =>
    bif dstOk n o.dst && !isDefer o.op then
      (match guardV ops E o with
       | some b =>
         bif isGuard o then
           .ite b ((stepV P G (refE ops E o true) H nx o).andThen fun s => (runD P G n ops r ((refE ops E o true).put o.dst s.v) (s.u ++ H) s.nx).andThen fun (E', H', nx', es) => .ret (E', H', nx', ⟨refE ops E o true, H, nx, o, true, s.v, s.u, s.rd, s.nx⟩ :: es))
             ((runD P G n ops r ((refE ops E o false).put o.dst VV.und) H nx).andThen fun (E', H', nx', es) => .ret (E', H', nx', ⟨refE ops E o false, H, nx, o, false, VV.und, [], [], nx⟩ :: es))
         else (stepV P G E H nx o).andThen fun s => (runD P G n ops r (E.put o.dst s.v) (s.u ++ H) s.nx).andThen fun (E', H', nx', es) => .ret (E', H', nx', ⟨E, H, nx, o, true, s.v, s.u, s.rd, s.nx⟩ :: es)
       | none => .fail)
    else .fail
/-- one step of the chain -/
structure COk (P : Program) (n : Nat) (ops : Array Oper) (c : CE) : Prop where
  dst : dstOk n c.o.dst = true
  nodefer : ∀ x, c.o.op ≠ .defer x
  guard : guardV ops c.E c.o = some c.ex
  yes : c.ex = true → OpS P c.E c.H c.nx c.o ⟨c.v, c.u, c.rd, c.nx'⟩
  no : c.ex = false → c.v = VV.und ∧ c.u = [] ∧ c.rd = [] ∧ c.nx' = c.nx
  le : c.nx ≤ c.nx'
inductive ChainL (P : Program) (n : Nat) (ops : Array Oper) : List Oper → VEnv → Hp → Nat → List CE → VEnv → Hp → Nat → Prop
  | nil {E : VEnv} {H : Hp} {nx : Nat} : ChainL P n ops [] E H nx [] E H nx
  | cons {o : Oper} {r : List Oper} {c : CE} {es : List CE} {E E' : VEnv} {H' : Hp} {nx' : Nat} (h0 : ∀ t, c.E.get t = E.get t) (hc : COk P n ops c) (ho : c.o = o) (h : ChainL P n ops r (c.E.put o.dst c.v) (c.u ++ c.H) c.nx' es E' H' nx') : ChainL P n ops (o :: r) E c.H c.nx (c :: es) E' H' nx'
theorem runD_chain (hG : GoodF P G) : ∀ {l : List Oper} {E E' : VEnv} {H H' : Hp} {nx nx' : Nat} {es : List CE}, PT.Ends (runD P G n ops l E H nx) (E', H', nx', es) → ChainL P n ops l E H nx es E' H' nx' := by
  intro l
  induction l with
  | nil => intro E E' H H' nx nx' es h; cases h; exact .nil
  | cons o l ih =>
    intro E E' H H' nx nx' es h
    unfold runD at h
    cases hc : dstOk n o.dst && !isDefer o.op with
    | false => rw [hc] at h; exact h.elim
    | true =>
      rw [hc] at h
      simp only [Bool.and_eq_true, Bool.not_eq_true'] at hc
      obtain ⟨hd, hdf⟩ := hc
      simp only [cond_true] at h
      split at h
      · rename_i b hb
        have yes : ∀ E1 : VEnv, (∀ t, E1.get t = E.get t) → b = true → PT.Ends ((stepV P G E1 H nx o).andThen fun s => (runD P G n ops l (E1.put o.dst s.v) (s.u ++ H) s.nx).andThen fun (E', H', nx', es) => .ret (E', H', nx', ⟨E1, H, nx, o, true, s.v, s.u, s.rd, s.nx⟩ :: es)) (E', H', nx', es) → ChainL P n ops (o :: l) E H nx es E' H' nx' := by
          intro E1 hE1 hb1 h
          obtain ⟨s, h1, h⟩ := PT.ends_then.1 h
          obtain ⟨⟨E2, H2, nx2, es2⟩, h2, h3⟩ := PT.ends_then.1 h
          cases h3
          have hs := stepV_spec hG h1
          exact ChainL.cons (c := ⟨E1, H, nx, o, true, s.v, s.u, s.rd, s.nx⟩) hE1 ⟨hd, notDefer hdf, (guardV_congr o hE1).trans (hb.trans (congrArg some hb1)), fun _ => hs, fun e => (by cases e), hs.1⟩ rfl (ih h2)
        cases hgd : isGuard o with
        | false =>
          rw [hgd] at h
          have : o.guard = none := by unfold isGuard at hgd; simpa using hgd
          refine yes E (fun _ => rfl) ?_ h
          unfold guardV at hb
          rw [this] at hb
          simpa using hb.symm
        | true =>
          rw [hgd] at h
          rcases h with ⟨hb1, h⟩ | ⟨hb1, h⟩
          · exact yes _ (fun t => refE_get (hb.trans (congrArg some hb1)) t) hb1 h
          · obtain ⟨⟨E2, H2, nx2, es2⟩, h2, h3⟩ := PT.ends_then.1 h
            cases h3
            have hE1 : ∀ t, (refE ops E o false).get t = E.get t := fun t => refE_get (hb.trans (congrArg some hb1)) t
            exact ChainL.cons (c := ⟨refE ops E o false, H, nx, o, false, VV.und, [], [], nx⟩) hE1 ⟨hd, notDefer hdf, (guardV_congr o hE1).trans (hb.trans (congrArg some hb1)), fun e => (by cases e), fun _ => ⟨rfl, rfl, rfl, rfl⟩, Nat.le_refl _⟩ rfl (ih h2)
      · exact h.elim
/-- the heap behind those operations that sel tells -/
def hf : List CE → (Nat → Bool) → Nat → Hp → Hp
  | [], _, _, H => H
  | c :: r, sel, k, H => hf r sel (k + 1) (bif sel k then c.u ++ H else H)
theorem hf_agree {q : Nat} : ∀ {es : List CE} {sel sel' : Nat → Bool} {k : Nat} {H H' : Hp}, H.get q = H'.get q → (∀ i c, es[i]? = some c → q ∈ keysH c.u → sel (k + i) = sel' (k + i)) → (hf es sel k H).get q = (hf es sel' k H').get q := by
  intro es
  induction es with
  | nil => intro sel sel' k H H' h _; exact h
  | cons c es ih =>
    intro sel sel' k H H' h hq
    unfold hf
    refine ih ?_ fun i c' hc' hm => by have := hq (i + 1) c' (by simpa using hc') hm; rwa [show k + (i + 1) = k + 1 + i by omega] at this
    by_cases hm : q ∈ keysH c.u
    · have := hq 0 c rfl hm
      rw [Nat.add_zero] at this
      rw [this]
      cases sel' k with
      | false => exact h
      | true => simp only [cond_true]; rw [Hp.get_app, Hp.get_app, h]
    · have h1 : ∀ X : Hp, Hp.get (c.u ++ X) q = X.get q := fun X => by rw [Hp.get_app, get_keys hm]
      cases sel k <;> cases sel' k <;> simp only [cond_true, cond_false, h1, h]
theorem hf_last {q : Nat} : ∀ {es : List CE} {sel : Nat → Bool} {k i : Nat} {H : Hp} {c : CE}, es[i]? = some c → sel (k + i) = true → q ∈ keysH c.u → (∀ i' c', es[i']? = some c' → i < i' → sel (k + i') = true → q ∉ keysH c'.u) → (hf es sel k H).get q = c.u.get q := by
  intro es
  induction es with
  | nil => intro sel k i H c h; simp at h
  | cons c0 es ih =>
    intro sel k i H c h hs hq hl
    cases i with
    | zero =>
      simp only [List.getElem?_cons_zero, Option.some.injEq] at h
      subst h
      rw [Nat.add_zero] at hs
      unfold hf
      rw [hs, cond_true]
      have : (hf es sel (k + 1) (c0.u ++ H)).get q = (hf es (fun _ => false) (k + 1) (c0.u ++ H)).get q := hf_agree rfl fun i' c' hc' hm => by
        cases hs' : sel (k + 1 + i') with
        | false => rfl
        | true => exact absurd hm (hl (i' + 1) c' (by simpa using hc') (by omega) (by rw [show k + (i' + 1) = k + 1 + i' by omega]; exact hs'))
      rw [this]
      have hn : ∀ (es : List CE) (k : Nat) (H : Hp), hf es (fun _ => false) k H = H := by
        intro es
        induction es with
        | nil => intro k H; rfl
        | cons c es ih => intro k H; unfold hf; exact ih _ _
      rw [hn, Hp.get_app]
      cases hg : c0.u.get q with
      | some o => rfl
      | none =>
        exfalso
        have : ∀ u : Hp, q ∈ keysH u → u.get q ≠ none := by
          intro u
          induction u with
          | nil => intro h; cases h
          | cons x u ih =>
            obtain ⟨k', o'⟩ := x
            intro hm
            by_cases hk : k' = q
            · subst hk; rw [get_self]; simp
            · rw [get_ne _ _ hk]
              simp only [keysH, List.map_cons, List.mem_cons] at hm
              exact ih (hm.resolve_left (Ne.symm hk))
        exact this _ hq hg
    | succ i =>
      unfold hf
      refine ih (by simpa using h) (by rw [show k + 1 + i = k + (i + 1) by omega]; exact hs) hq fun i' c' hc' hlt hs' => hl (i' + 1) c' (by simpa using hc') (by omega) (by rw [show k + (i' + 1) = k + 1 + i' by omega]; exact hs')

section
variable {E0 E' : VEnv} {H0 H' : Hp} {nx0 nx' : Nat} {es : List CE}
theorem ChainL.length {l : List Oper} (h : ChainL P n ops l E0 H0 nx0 es E' H' nx') : es.length = l.length := by
  induction h with
  | nil => rfl
  | cons _ _ _ _ ih => simp [ih]
theorem ChainL.ok {l : List Oper} (h : ChainL P n ops l E0 H0 nx0 es E' H' nx') {i : Nat} {c : CE} (hi : es[i]? = some c) : COk P n ops c ∧ l[i]? = some c.o := by
  induction h generalizing i with
  | nil => simp at hi
  | cons _ hc ho _ ih =>
    cases i with
    | zero => simp only [List.getElem?_cons_zero, Option.some.injEq] at hi; subst hi; exact ⟨hc, by rw [ho]; rfl⟩
    | succ i => exact ih (by simpa using hi)
theorem ChainL.nx_le {l : List Oper} (h : ChainL P n ops l E0 H0 nx0 es E' H' nx') : nx0 ≤ nx' ∧ ∀ (i : Nat) (c : CE), es[i]? = some c → nx0 ≤ c.nx ∧ c.nx' ≤ nx' := by
  induction h with
  | nil => exact ⟨Nat.le_refl _, fun i c h => by simp at h⟩
  | cons _ hc ho _ ih =>
    refine ⟨Nat.le_trans hc.le ih.1, fun i c hi => ?_⟩
    cases i with
    | zero => simp only [List.getElem?_cons_zero, Option.some.injEq] at hi; subst hi; exact ⟨Nat.le_refl _, ih.1⟩
    | succ i => obtain ⟨a, b⟩ := ih.2 i c (by simpa using hi); exact ⟨Nat.le_trans hc.le a, b⟩
/-- the ids of two operations are apart -/
theorem ChainL.apart {l : List Oper} (h : ChainL P n ops l E0 H0 nx0 es E' H' nx') : ∀ (i j : Nat) (c d : CE), i < j → es[i]? = some c → es[j]? = some d → c.nx' ≤ d.nx := by
  induction h with
  | nil => intro i j c d _ h; simp at h
  | cons _ hc ho hch ih =>
    intro i j c d hlt hi hj
    cases j with
    | zero => omega
    | succ j =>
      cases i with
      | zero => simp only [List.getElem?_cons_zero, Option.some.injEq] at hi; subst hi; exact (hch.nx_le.2 j d (by simpa using hj)).1
      | succ i => exact ih i j c d (by omega) (by simpa using hi) (by simpa using hj)
/-- the heap at an operation -/
theorem ChainL.heap {l : List Oper} (h : ChainL P n ops l E0 H0 nx0 es E' H' nx') : (∀ (i : Nat) (c : CE), es[i]? = some c → ∀ k, c.H = hf es (fun j => Nat.blt j (k + i)) k H0) ∧ ∀ k, H' = hf es (fun _ => true) k H0 := by
  induction h with
  | nil => exact ⟨fun i c h => by simp at h, fun k => rfl⟩
  | @cons o r c es Es E' H' nx' h0 hc ho hch ih =>
    have hn : ∀ (es : List CE) (f : Nat → Bool) (k : Nat) (H : Hp), (∀ i, f (k + i) = false) → hf es f k H = H := by
      intro es
      induction es with
      | nil => intro f k H _; rfl
      | cons c es ih => intro f k H hf'; unfold hf; rw [show f k = false from hf' 0]; exact ih _ _ _ fun i => by have := hf' (i + 1); rwa [show k + (i + 1) = k + 1 + i by omega] at this
    refine ⟨fun i c' hi k => ?_, fun k => ?_⟩
    · cases i with
      | zero =>
        simp only [List.getElem?_cons_zero, Option.some.injEq] at hi
        subst hi
        rw [hn _ _ k _ fun i => by
          cases hb : Nat.blt (k + i) (k + 0) with
          | false => rfl
          | true => have := (Nat.blt_eq ▸ hb : k + i < k + 0); omega]
      | succ i =>
        have := ih.1 i c' (by simpa using hi) (k + 1)
        rw [this]
        have e1 : Nat.blt k (k + (i + 1)) = true := by simp [Nat.blt_eq]
        conv => rhs; unfold hf
        simp only [e1, cond_true, show k + 1 + i = k + (i + 1) by omega]
    · conv => rhs; unfold hf
      exact ih.2 (k + 1)
/-- where a slot's value comes from -/
theorem ChainL.slot {l : List Oper} (h : ChainL P n ops l E0 H0 nx0 es E' H' nx') (t : Nat) :
    (∀ (i : Nat) (c : CE) (x : VV), es[i]? = some c → c.E.get t = some x → (∃ (j : Nat) (d : CE), j < i ∧ es[j]? = some d ∧ d.o.dst = some t ∧ d.v = x) ∨ ((∀ (j : Nat) (d : CE), j < i → es[j]? = some d → d.o.dst ≠ some t) ∧ E0.get t = some x)) ∧
    (∀ x, E'.get t = some x → (∃ (j : Nat) (d : CE), es[j]? = some d ∧ d.o.dst = some t ∧ d.v = x) ∨ ((∀ (j : Nat) (d : CE), es[j]? = some d → d.o.dst ≠ some t) ∧ E0.get t = some x)) := by
  induction h with
  | nil => exact ⟨fun i c x h => by simp at h, fun x h => .inr ⟨fun j d h => by simp at h, h⟩⟩
  | @cons o r c es Es E' H' nx' h0 hc ho hch ih =>
    have put : ∀ x, (c.E.put o.dst c.v).get t = some x → (o.dst = some t ∧ c.v = x) ∨ (o.dst ≠ some t ∧ c.E.get t = some x) := by
      intro x hx
      cases hd : o.dst with
      | none => rw [hd] at hx; exact .inr ⟨by simp, hx⟩
      | some d =>
        rw [hd, VEnv.get_put] at hx
        split at hx
        · rename_i e; subst e; cases hx; exact .inl ⟨rfl, rfl⟩
        · rename_i e; exact .inr ⟨fun h => e (Option.some.inj h), hx⟩
    refine ⟨fun i c' x hi hx => ?_, fun x hx => ?_⟩
    · cases i with
      | zero => simp only [List.getElem?_cons_zero, Option.some.injEq] at hi; subst hi; exact .inr ⟨fun j d hj => by omega, (h0 t).symm.trans hx⟩
      | succ i =>
        rcases ih.1 i c' x (by simpa using hi) hx with ⟨j, d, h1, h2, h3, h4⟩ | ⟨h1, h2⟩
        · exact .inl ⟨j + 1, d, by omega, by simpa using h2, h3, h4⟩
        · rcases put x h2 with ⟨h3, h4⟩ | ⟨h3, h4⟩
          · exact .inl ⟨0, c, by omega, rfl, by rw [ho]; exact h3, h4⟩
          · refine .inr ⟨fun j d hj hd => ?_, (h0 t).symm.trans h4⟩
            cases j with
            | zero => simp only [List.getElem?_cons_zero, Option.some.injEq] at hd; subst hd; rw [ho]; exact h3
            | succ j => exact h1 j d (by omega) (by simpa using hd)
    · rcases ih.2 x hx with ⟨j, d, h2, h3, h4⟩ | ⟨h1, h2⟩
      · exact .inl ⟨j + 1, d, by simpa using h2, h3, h4⟩
      · rcases put x h2 with ⟨h3, h4⟩ | ⟨h3, h4⟩
        · exact .inl ⟨0, c, rfl, by rw [ho]; exact h3, h4⟩
        · refine .inr ⟨fun j d hd => ?_, (h0 t).symm.trans h4⟩
          cases j with
          | zero => simp only [List.getElem?_cons_zero, Option.some.injEq] at hd; subst hd; rw [ho]; exact h3
          | succ j => exact h1 j d (by simpa using hd)
end

def disj (a b : List Nat) : Bool := a.all fun x => !b.contains x
theorem disj_spec {a b : List Nat} (h : disj a b = true) {x : Nat} (ha : x ∈ a) (hb : x ∈ b) : False := by
  have := List.all_eq_true.1 h x ha
  simp [hb] at this
/-- operations that do not wait for each other do not meet at an object -/
def noConf (ops : Array Oper) (es : List CE) : Bool :=
  (List.range es.length).all fun i => (List.range i).all fun j =>
    depB ops i j || (match es[i]?, es[j]? with
      | some c, some d => disj (keysH d.u) (c.rd ++ keysH c.u) && disj (keysH c.u) d.rd
      | _, _ => true)
theorem noConf_spec {es : List CE} (h : noConf ops es = true) {i j : Nat} {c d : CE} (hi : es[i]? = some c) (hj : es[j]? = some d) (hlt : j < i) (hnd : ¬ Dep ops i j) {q : Nat} : (q ∈ keysH d.u → q ∉ c.rd ∧ q ∉ keysH c.u) ∧ (q ∈ keysH c.u → q ∉ d.rd) := by
  have hil : i < es.length := (List.getElem?_eq_some_iff.1 hi).1
  have h1 := List.all_eq_true.1 (List.all_eq_true.1 h i (by simpa using hil)) j (by simpa using hlt)
  rw [hi, hj] at h1
  simp only [Bool.or_eq_true, Bool.and_eq_true] at h1
  rcases h1 with h1 | ⟨h1, h2⟩
  · exact absurd (depB_spec h1) hnd
  · exact ⟨fun hq => ⟨fun hr => disj_spec h1 hq (List.mem_append_left _ hr), fun hr => disj_spec h1 hq (List.mem_append_right _ hr)⟩, fun hq hr => disj_spec h2 hq hr⟩
def selOf (L : Array Bool) : Nat → Bool := fun i => L.getD i false

structure DI (P : Program) (n : Nat) (ds : List Deferred) (ops : Array Oper) (E0 : VEnv) (H0 : Hp) (A0 : Nat → Prop) (φ0 : Ph) (w0 : World) (es : List CE) (L : Array Bool) (a : Act) (w : World) : Prop where
  lsize : L.size = ops.size
  clo : ∀ (i : Nat) (o : Oper), L[i]? = some true → ops[i]? = some o → ∀ e ∈ o.after, Region.binds .any e = true → L[e.on]? = some true
  size : a.tmps.size = n
  defers : a.defers = ds
  st : ∃ A φ, Stp A0 φ0 H0 w0 A φ (hf es (selOf L) 0 H0) w ∧ (∀ j, A j → A0 j ∨ ∃ (i : Nat) (c : CE), L[i]? = some true ∧ es[i]? = some c ∧ c.nx ≤ j ∧ j < c.nx') ∧
    (∀ (i : Nat) (c : CE) d, L[i]? = some true → es[i]? = some c → c.o.dst = some d → ∃ v, a.tmps[d]? = some v ∧ RelV φ A c.v v) ∧
    (∀ t x, E0.get t = some x → (∀ (i : Nat) (c : CE), L[i]? = some true → es[i]? = some c → c.o.dst ≠ some t) → ∃ v, a.tmps[t]? = some v ∧ RelV φ A x v)

theorem selOf_iff {L : Array Bool} {i : Nat} : selOf L i = true ↔ L[i]? = some true := by
  unfold selOf
  rw [Array.getD_eq_getD_getElem?]
  cases h : L[i]? with
  | none => simp
  | some b => simp
theorem wpIn_draw {id : Nat} {E0 E' : VEnv} {H0 H' : Hp} {nx0 nx' : Nat} {es : List CE} {A0 : Nat → Prop} {φ0 : Ph} {a0 : Act} {w0 : World} (hm : P.follows .mixedOrders = true) (hok : drawOk n ops = true) (hch : ChainL P n ops ops.toList E0 H0 nx0 es E' H' nx') (hnc : noConf ops es = true)
    (hA0 : AtV n ds φ0 A0 E0 a0) (hH0 : RepH A0 φ0 H0 w0) (hn0 : Fresh A0 nx0 nx') (hk : ∀ a' w', Comes n ds A0 φ0 H0 w0 E' H' nx0 nx' a' w' → Q .normal a' w') : (Code.region id ops true).wpIn (FW r) 0 P Q a0 w0 := by
  refine wpIn_region_any hm ?_
  have hlen : es.length = ops.size := by rw [hch.length]; simp
  have okc : ∀ {i : Nat} {c : CE}, es[i]? = some c → COk P n ops c ∧ ops[i]? = some c.o := fun hi => by
    obtain ⟨h1, h2⟩ := hch.ok hi
    exact ⟨h1, by rw [← Array.getElem?_toList]; exact h2⟩
  have key : ∀ (fuel : Nat) (L : Array Bool) (a : Act) (w : World), DI P n ds ops E0 H0 A0 φ0 w0 es L a w → L.toList.count false ≤ fuel → wpAnyIn (FW r) 0 P .any ops Q fuel L a w := by
    intro fuel
    have whole : ∀ (L : Array Bool) (a : Act) (w : World), DI P n ds ops E0 H0 A0 φ0 w0 es L a w → Region.ready .any ops L = [] → Q .normal a w := by
      intro L a w hinv hr
      have hall : ∀ i, i < ops.size → L[i]? = some true := by
        intro i
        induction i using Nat.strongRecOn with
        | _ i ih =>
          intro hi
          have hiL : i < L.size := by rw [hinv.lsize]; exact hi
          by_cases hl : L[i]? = some true
          · exact hl
          · exfalso
            have hlf : L[i]? = some false := by
              rw [Array.getElem?_eq_getElem hiL] at hl ⊢
              cases hb : L[i] with
              | false => rfl
              | true => rw [hb] at hl; exact absurd rfl hl
            have hoi : ops[i]? = some ops[i] := Array.getElem?_eq_getElem hi
            have hmem : i ∈ Region.ready .any ops L := by
              unfold Region.ready
              refine List.mem_filter.2 ⟨by simpa using hi, ?_⟩
              simp only [Array.getD_eq_getD_getElem?, hlf, hoi, Option.getD_some, Option.map_some, Bool.not_false, Bool.true_and]
              refine Array.all_eq_true'.2 fun e he => ?_
              cases hb : Region.binds .any e with
              | false => rfl
              | true =>
                have hlt := (drawOk_spec hok hoi).2.2.2.1 e he hb
                rw [ih e.on hlt (by omega)]; rfl
            rw [hr] at hmem; cases hmem
      obtain ⟨A, φ, hst, hid, hv1, hv2⟩ := hinv.st
      have hsel : ∀ (i : Nat) (c : CE), es[i]? = some c → L[i]? = some true := fun i c hi => hall i (by rw [← hlen]; exact (List.getElem?_eq_some_iff.1 hi).1)
      refine hk a w ⟨A, φ, ⟨hinv.size, hinv.defers, fun t x ht => ?_⟩, ?_, fun j hj => ?_⟩
      · rcases (hch.slot t).2 x ht with ⟨j, d, h1, h2, h3⟩ | ⟨h1, h2⟩
        · rw [← h3]; exact hv1 j d t (hsel j d h1) h1 h2
        · exact hv2 t x h2 fun i c _ hi => h1 i c hi
      · refine hst.congr (fun _ => rfl) fun q => ?_
        rw [hch.heap.2 0]
        exact hf_agree rfl fun i c hi _ => by rw [Nat.zero_add]; exact (selOf_iff.2 (hsel i c hi)).symm
      · rcases hid j hj with h | ⟨i, c, _, hi, hge, hlt⟩
        · exact .inl h
        · exact .inr ⟨Nat.le_trans (hch.nx_le.2 i c hi).1 hge, Nat.lt_of_lt_of_le hlt (hch.nx_le.2 i c hi).2⟩
    induction fuel with
    | zero =>
      intro L a w hinv hc
      have hr : Region.ready .any ops L = [] := by
        unfold Region.ready
        refine List.filter_eq_nil_iff.2 fun i hi => ?_
        have hi' : i < L.size := by rw [hinv.lsize]; simpa using hi
        have : L[i]? = some true := by
          rw [Array.getElem?_eq_getElem hi']
          have hne : false ∉ L.toList := List.count_eq_zero.1 (by omega)
          cases hb : L[i] with
          | true => rfl
          | false => exact absurd (by rw [← hb]; simp) hne
        simp [Array.getD_eq_getD_getElem?, this]
      exact ⟨hr, whole L a w hinv hr⟩
    | succ fuel ih =>
      intro L a w hinv hc
      refine ⟨whole L a w hinv, fun i hi => ?_⟩
      obtain ⟨hi1, hi2⟩ := List.mem_filter.1 hi
      have hi1 : i < ops.size := by simpa using hi1
      obtain ⟨c, hci⟩ : ∃ c, es[i]? = some c := ⟨es[i]'(by rw [hlen]; exact hi1), by simp⟩
      obtain ⟨hcok, ho⟩ := okc hci
      simp only [Bool.and_eq_true, Bool.not_eq_true'] at hi2
      obtain ⟨hun', hpre'⟩ := hi2
      have hiL : i < L.size := by rw [hinv.lsize]; exact hi1
      have hunF : L[i]? = some false := by
        rw [Array.getElem?_eq_getElem hiL]
        rw [Array.getD_eq_getD_getElem?, Array.getElem?_eq_getElem hiL] at hun'
        exact congrArg some hun'
      have hun : L[i]? ≠ some true := by rw [hunF]; simp
      have hpre : ∀ e ∈ c.o.after, Region.binds .any e = true → L[e.on]? = some true := by
        intro e he hb
        rw [ho] at hpre'
        rw [Option.map_some, Option.getD_some] at hpre'
        have := Array.all_eq_true'.1 hpre' e he
        simp only [hb, Bool.not_true, Bool.false_or, Array.getD_eq_getD_getElem?] at this
        cases hq : L[e.on]? with
        | none => rw [hq] at this; cases this
        | some b => rw [hq] at this; rw [show b = true from this]
      obtain ⟨⟨hsel, hdef⟩, hdn, hguard, _, hslots⟩ := drawOk_spec hok ho
      have hdep : ∀ {x y : Nat}, Dep ops x y → x = i → L[y]? = some true := by
        intro x y hd
        induction hd with
        | @edge x o' e ho' he hb => intro hx; subst hx; rw [ho] at ho'; cases ho'; exact hpre e he hb
        | @trans x y z h1 h2 ih1 _ => intro hx; exact listed_dep hinv.clo h2 (ih1 hx)
      have hcount : (L.setIfInBounds i true).toList.count false ≤ fuel := by
        have := count_set L.toList i (by simpa using hunF)
        rw [Array.toList_setIfInBounds]
        omega
      have hL : ∀ j, (L.setIfInBounds i true)[j]? = some true ↔ j = i ∨ L[j]? = some true := by
        intro j
        by_cases he : i = j
        · subst he; simp [hiL]
        · rw [Array.getElem?_setIfInBounds_ne he]
          exact ⟨.inr, fun h => h.resolve_left fun e => he e.symm⟩
      obtain ⟨A, φ, hst, hid, hv1, hv2⟩ := hinv.st
      -- what the operation looks at is as in the text's order
      have hslot : ∀ t ∈ slotsOf ops c.o, ∀ x, c.E.get t = some x → ∃ v, a.tmps[t]? = some v ∧ RelV φ A x v := by
        intro t ht x hx
        rcases (hch.slot t).1 i c x hci hx with ⟨j, d, h1, h2, h3, h4⟩ | ⟨h1, h2⟩
        · have hdo := (okc h2).2
          rw [← h4]
          exact hv1 j d t (hdep (((hslots j d.o t hdo h3).2 ht).1 h1) rfl) h2 h3
        · refine hv2 t x h2 fun j d hj hd hdd => ?_
          have hdo := (okc hd).2
          rcases Nat.lt_trichotomy j i with hlt | heq | hgt
          · exact h1 j d hlt hd hdd
          · subst heq; exact hun hj
          · exact hun (listed_dep hinv.clo (((hslots j d.o t hdo hdd).2 ht).2 hgt) hj)
      have hwant : Region.wanted c.o (yielded ops a.tmps) = c.ex := guardV_spec hcok.guard fun j want d hg hd x hx => by
        obtain ⟨v, h1, h2⟩ := hslot d (mem_slots_guard hg hd) _ hx
        rw [h1]; exact congrArg some h2
      -- the next state's parts that are alike, executed or not
      have hnext : ∀ (A1 : Nat → Prop) (φ1 : Ph) (w1 : World) (v : Value), Agree φ φ1 A A1 → (∀ j, A1 j → A j ∨ (c.nx ≤ j ∧ j < c.nx')) → RelV φ1 A1 c.v v → Stp A φ (hf es (selOf L) 0 H0) w A1 φ1 (c.u ++ hf es (selOf L) 0 H0) w1 →
          (∀ q, (hf es (selOf (L.setIfInBounds i true)) 0 H0).get q = Hp.get (c.u ++ hf es (selOf L) 0 H0) q) → DI P n ds ops E0 H0 A0 φ0 w0 es (L.setIfInBounds i true) (a.put c.o.dst v) w1 := by
        intro A1 φ1 w1 v hag hids hrv hstp hheap
        refine ⟨by simp [hinv.lsize], ?_, ?_, ?_, A1, φ1, hst.trans (hstp.congr (fun _ => rfl) hheap), fun j hj => ?_, fun j d t hj hd hdd => ?_, fun t x ht hnw => ?_⟩
        · intro j oj hj hoj e he hb
          rw [hL] at hj ⊢
          rcases hj with rfl | hj
          · rw [ho] at hoj; cases hoj; exact .inr (hpre e he hb)
          · exact .inr (hinv.clo j oj hj hoj e he hb)
        · cases hd : c.o.dst <;> simp [Act.put, hinv.size]
        · cases hd : c.o.dst <;> simp [Act.put, hinv.defers]
        · rcases hids j hj with h | h
          · rcases hid j h with h | ⟨k, d, h1, h2, h3⟩
            · exact .inl h
            · exact .inr ⟨k, d, (hL k).2 (.inr h1), h2, h3⟩
          · exact .inr ⟨i, c, (hL i).2 (.inl rfl), hci, h⟩
        · by_cases he : j = i
          · subst he
            rw [hci] at hd; cases hd
            have hlt : t < n := hdn t hdd
            exact ⟨v, by rw [hdd]; simp [Act.put, hinv.size, hlt], hrv⟩
          · have hLj := ((hL j).1 hj).resolve_left he
            obtain ⟨u, hu, hr⟩ := hv1 j d t hLj hd hdd
            have hne : c.o.dst ≠ some t := ((hslots j d.o t (okc hd).2 hdd).1 (Ne.symm he))
            refine ⟨u, ?_, hr.up hag⟩
            rw [← hu]
            cases hdc : c.o.dst with
            | none => rfl
            | some t' =>
              have : t' ≠ t := fun e => hne (by rw [hdc, e])
              simp only [Act.put]
              exact Array.getElem?_setIfInBounds_ne this
        · have hne : c.o.dst ≠ some t := hnw i c ((hL i).2 (.inl rfl)) hci
          obtain ⟨u, hu, hr⟩ := hv2 t x ht fun j d hj hd => hnw j d ((hL j).2 (.inr hj)) hd
          refine ⟨u, ?_, hr.up hag⟩
          rw [← hu]
          cases hdc : c.o.dst with
          | none => rfl
          | some t' =>
            have : t' ≠ t := fun e => hne (by rw [hdc, e])
            simp only [Act.put]
            exact Array.getElem?_setIfInBounds_ne this
      have selSame : ∀ k, k ≠ i → selOf (L.setIfInBounds i true) k = selOf L k := by
        intro k hki
        have h1 := hL k
        cases h2 : selOf L k with
        | true => exact selOf_iff.2 (h1.2 (.inr (selOf_iff.1 h2)))
        | false =>
          cases h3 : selOf (L.setIfInBounds i true) k with
          | false => rfl
          | true =>
            have := (h1.1 (selOf_iff.1 h3)).resolve_left hki
            rw [← selOf_iff, h2] at this; cases this
      unfold wpOpIn
      rw [ho]
      simp only
      cases hex : c.ex with
      | false =>
        obtain ⟨e1, e2, e3, e4⟩ := hcok.no hex
        rw [if_neg (by rw [hwant, hex]; simp)]
        refine ⟨about_FW, ih _ _ _ (hnext A φ w undef (.refl _ _) (fun j h => .inl h) (by rw [e1]; trivial) (by rw [e2]; exact Stp.refl hst.rep) fun q => ?_) hcount⟩
        rw [e2, List.nil_append]
        exact hf_agree rfl fun k d hkd hq => by
          rw [Nat.zero_add]
          refine selSame k fun e => ?_
          subst e
          rw [hci] at hkd; cases hkd
          rw [e2] at hq; cases hq
      | true =>
        obtain ⟨hle, hs⟩ := hcok.yes hex
        have hdo := hs A φ (hf es (selOf L) 0 H0) w (actEnv a) (fun x hx vv hv => by
            rw [actEnv_ev]
            cases x with
            | tmp t =>
              obtain ⟨v, h1, h2⟩ := hslot t (mem_slots_tmp hx) vv hv
              simpa [Act.eval, Array.getD_eq_getD_getElem?, h1] using h2
            | const v => exact evC_spec hv φ A
            | global g => cases hv
            | func f => cases hv; exact ⟨[], [], rfl, trivial, trivial⟩) hst.rep (fun q hq => ?_) (fun j h1 h2 hAj => ?_)
        · rw [if_pos (hwant.trans hex)]
          refine does_wp hcok.nodefer hdo ?_
          rintro v w1 ⟨A1, φ1, hr, hstp, hon⟩
          refine ih _ _ _ (hnext A1 φ1 w1 v hstp.agree hon hr hstp fun q => ?_) hcount
          have hseli : selOf (L.setIfInBounds i true) (0 + i) = true := by rw [Nat.zero_add]; exact selOf_iff.2 ((hL i).2 (.inl rfl))
          by_cases hq : q ∈ keysH c.u
          · rw [hf_last (c := c) hci hseli hq]
            · rw [Hp.get_app]
              cases hg : c.u.get q with
              | some o => rfl
              | none =>
                exfalso
                have : ∀ u : Hp, q ∈ keysH u → u.get q ≠ none := by
                  intro u
                  induction u with
                  | nil => intro h; cases h
                  | cons x u ih =>
                    obtain ⟨k', o'⟩ := x
                    intro hm
                    by_cases hk : k' = q
                    · subst hk; rw [get_self]; simp
                    · rw [get_ne _ _ hk]
                      simp only [keysH, List.map_cons, List.mem_cons] at hm
                      exact ih (hm.resolve_left (Ne.symm hk))
                exact this _ hq hg
            · intro k d hkd hlt hsk hqd
              rw [Nat.zero_add, selSame k (by omega)] at hsk
              have hkL := selOf_iff.1 hsk
              have hnd : ¬ Dep ops k i := fun hdp => hun (listed_dep hinv.clo hdp hkL)
              exact ((noConf_spec hnc hkd hci hlt hnd).1 hq).2 hqd
          · rw [Hp.get_app, get_keys hq]
            exact hf_agree rfl fun k d hkd hqd => by
              rw [Nat.zero_add]
              refine selSame k fun e => ?_
              subst e
              rw [hci] at hkd; cases hkd
              exact hq hqd
        · rw [hch.heap.1 i c hci 0]
          refine hf_agree rfl fun k d hkd hqd => ?_
          rw [Nat.zero_add, Nat.zero_add]
          rcases Nat.lt_trichotomy k i with hlt | heq | hgt
          · have hb : Nat.blt k i = true := by simpa [Nat.blt_eq] using hlt
            rw [hb]
            by_cases hkL : L[k]? = some true
            · exact selOf_iff.2 hkL
            · exact absurd hq ((noConf_spec hnc hci hkd hlt (fun hdp => hkL (hdep hdp rfl))).1 hqd).1
          · subst heq
            have hb : Nat.blt k k = false := by
              cases hb : Nat.blt k k with
              | false => rfl
              | true => have := (Nat.blt_eq ▸ hb : k < k); omega
            rw [hb]
            cases hs : selOf L k with
            | false => rfl
            | true => exact absurd (selOf_iff.1 hs) hun
          · have hb : Nat.blt k i = false := by
              cases hb : Nat.blt k i with
              | false => rfl
              | true => have := (Nat.blt_eq ▸ hb : k < i); omega
            rw [hb]
            cases hs : selOf L k with
            | false => rfl
            | true =>
              exfalso
              have hkL := selOf_iff.1 hs
              have hnd : ¬ Dep ops k i := fun hdp => hun (listed_dep hinv.clo hdp hkL)
              exact (noConf_spec hnc hkd hci hgt hnd).2 hqd hq
        · rcases hid j hAj with h | ⟨k, d, hkL, hkd, h3, h4⟩
          · have h5 := (hch.nx_le.2 i c hci)
            simp only at h1 h2
            exact hn0 j (by omega) (by omega) h
          · simp only at h1 h2
            rcases Nat.lt_trichotomy k i with hlt | heq | hgt
            · have := hch.apart k i d c hlt hkd hci; omega
            · subst heq; exact hun hkL
            · have := hch.apart i k c d hgt hci hkd; omega
  refine key _ _ _ _ ⟨by simp, ?_, hA0.size, hA0.defers, A0, φ0, ?_, fun j h => .inl h, ?_, fun t x ht _ => hA0.slot t x ht⟩ ?_
  · intro i o hl; simp [Array.getElem?_replicate] at hl
  · have hn : ∀ (es : List CE) (k : Nat), hf es (selOf (Array.replicate ops.size false)) k H0 = H0 := by
      intro es
      induction es with
      | nil => intro k; rfl
      | cons c es ih =>
        intro k
        unfold hf
        have : selOf (Array.replicate ops.size false) k = false := by
          unfold selOf
          rw [Array.getD_eq_getD_getElem?, Array.getElem?_replicate]
          split <;> rfl
        rw [this]; exact ih _
    rw [hn]
    exact hH0.quiet (Grow.drawn w0 _)
  · intro i c d hl; simp [Array.getElem?_replicate] at hl
  · simp
/-! ### in a larger heap -/
def esOk (es : List CE) : Bool := es.all fun c => rdOk c.H c.rd
theorem OpS.sub {Ev : VEnv} {H H1 : Hp} {lo : Nat} {o : Oper} {r : SR} (h : OpS P Ev H lo o r) (hs : Sub H H1) (hr : rdOk H r.rd = true) : OpS P Ev H1 lo o r :=
  ⟨h.1, fun A φ H2 w E hO hH hrd hf => h.2 A φ H2 w E hO hH (fun j hj => (hrd j hj).trans (hs.rd hr j hj)) hf⟩
theorem ChainL.sub {l : List Oper} {E E' : VEnv} {H H' : Hp} {nx nx' : Nat} {es : List CE} (h : ChainL P n ops l E H nx es E' H' nx') (hes : esOk es = true) : ∃ u, H' = u ++ H ∧ ∀ H1, Sub H H1 →
    ∃ es1, ChainL P n ops l E H1 nx es1 E' (u ++ H1) nx' ∧ es1.map (fun c => (c.u, c.rd)) = es.map (fun c => (c.u, c.rd)) := by
  induction h with
  | nil => exact ⟨[], rfl, fun H1 _ => ⟨[], .nil, rfl⟩⟩
  | @cons o r c es Es E' H' nx' h0 hc ho h ih =>
    have hes' : rdOk c.H c.rd = true ∧ esOk es = true := by simpa [esOk] using hes
    obtain ⟨u, hu, hr⟩ := ih hes'.2
    refine ⟨u ++ c.u, by rw [hu, List.append_assoc], fun H1 hs => ?_⟩
    obtain ⟨es1, h1, h2⟩ := hr _ (hs.app c.u)
    refine ⟨{ c with H := H1 } :: es1, ?_, by simp [h2]⟩
    rw [List.append_assoc]
    exact ChainL.cons (c := { c with H := H1 }) h0 ⟨hc.dst, hc.nodefer, hc.guard, fun e => (hc.yes e).sub hs hes'.1, hc.no, hc.le⟩ ho h1
theorem noConf_congr {es es1 : List CE} (h : es1.map (fun c => (c.u, c.rd)) = es.map (fun c => (c.u, c.rd))) : noConf ops es1 = noConf ops es := by
  have hl : es1.length = es.length := by simpa using congrArg List.length h
  have hg : ∀ i : Nat, (es1[i]?).map (fun c => (c.u, c.rd)) = (es[i]?).map (fun c => (c.u, c.rd)) := fun i => by rw [← List.getElem?_map, ← List.getElem?_map, h]
  unfold noConf
  rw [hl]
  congr 1
  funext i
  congr 1
  funext j
  have h1 := hg i
  have h2 := hg j
  cases e1 : es1[i]? <;> cases e2 : es[i]? <;> rw [e1, e2] at h1 <;> simp at h1 <;> cases e3 : es1[j]? <;> cases e4 : es[j]? <;> rw [e3, e4] at h2 <;> simp at h2 <;> simp_all
end
end Go.Sat
end
section
namespace Go.Sat
open Go

inductive Pat
  | ty (t : Ty) | own (t : Ty) (e : TypeId) | ptr (T : TypeId) (p : Pat) | pr (a b : Pat) | unit | nils | fn (g : FuncId) (p q : Pat) | wnd (t : Ty) (e : TypeId) (f : Bool)
@[reducible] def Pat.den : Pat → Type
  | .ty t => t.den
  | .own t _ => List t.den
  | .ptr _ p => p.den
  | .pr a b => a.den × b.den
  | .unit => Unit
  | .nils => Unit
  | .fn _ p q => p.den × q.den
  | .wnd t _ _ => List t.den × List t.den × List t.den
def Ty.nseg : Ty → Nat
  | .pr a b => a.nseg + b.nseg
  | _ => 1
def mutOf (H : Hp) (ids : List Nat) : List Nat := ids.filter fun j => match H.get j with | some (.own _ _ _ _) => true | some (.blk _ _) => true | some (.hid _) => true | some (.rcd _ _) => true | some (.rdn _) => true | _ => false
structure Dec (α : Type) where
  x : α
  rest : List Seg
  cm : List Nat
  cf : List Nat
def bvSegs (l : List BV) : List Seg := l.map fun b => .one (.b b)
def segBvs : List Seg → Option (List BV)
  | [] => some []
  | .one (.b v) :: r => (match segBvs r with | some l => some (v :: l) | none => none)
  | _ => none
def noUndef (l : List BV) : Bool := l.all fun b => match b with | .undef => false | _ => true
def fnSeg (g : FuncId) (l m : List Seg) : Seg := match segBvs l, segBvs m with
  | some fs, some cs => .one (.fn (.func g) fs cs)
  | _, _ => .one (.b .undef)
def decS (H : Hp) : (p : Pat) → List Seg → Option (Dec p.den)
  | .ty t => fun l => match closeT H t (l.take t.nseg) with
    | some (x, []) => bif rdOk H (segIds (l.take t.nseg)) then some ⟨x, l.drop t.nseg, [], mutOf H (segIds (l.take t.nseg))⟩ else none
    | _ => none
  | .own t e => fun l => match l with
    | .one (.b .nilsl) :: r => some ⟨[], r, [], []⟩
    | .one (.b (.row j)) :: r => (match H.get j with
      | some (.own t' e' xs _) => if h : t' = t then (bif Nat.beq e' e then some ⟨castL h xs, r, [j], []⟩ else none) else none
      | _ => none)
    | .one (.b (.sl j 0 0 _ len none)) :: r => (match H.get j with
      | some (.own t' e' xs _) => if h : t' = t then (bif Nat.beq e' e then some ⟨List.take len (castL h xs), r, [j], []⟩ else none) else none
      | _ => none)
    | _ => none
  | .ptr T p => fun l => match l with
    | .one (.b (.ptr j 0 0 0)) :: r => (match H.get j with
      | some (.blk T' segs) => bif Nat.beq T' T then (match decS H p segs with | some ⟨x, [], cm, cf⟩ => some ⟨x, r, j :: cm, cf⟩ | _ => none) else none
      | _ => none)
    | _ => none
  | .pr a b => fun l => match decS H a l with
    | some ⟨x, r, cm, cf⟩ => (match decS H b r with | some ⟨y, r', cm', cf'⟩ => some ⟨(x, y), r', cm ++ cm', cf ++ cf'⟩ | none => none)
    | none => none
  | .unit => fun l => some ⟨(), l, [], []⟩
  | .nils => fun l => match l with
    | .one (.b .nilsl) :: r => some ⟨(), r, [], []⟩
    | _ => none
  | .fn g p q => fun l => match l with
    | .one (.fn (.func g') fs cs) :: r => bif Nat.beq g' g && (noUndef fs && noUndef cs) then (match decS H p (bvSegs fs) with
      | some ⟨x, [], cm, cf⟩ => (match decS H q (bvSegs cs) with | some ⟨y, [], cm', cf'⟩ => some ⟨(x, y), r, cm ++ cm', cf ++ cf'⟩ | _ => none)
      | _ => none) else none
    | _ => none
  | .wnd t e f => fun l => match l with
    | .one (.b .nilsl) :: r => some ⟨([], [], []), r, [], []⟩
    | .one (.b (.row j)) :: r => (match H.get j with
      | some (.own t' e' xs f') => if h : t' = t then (bif Nat.beq e' e && (!f || f') then some ⟨([], castL h xs, []), r, [j], []⟩ else none) else none
      | _ => none)
    | .one (.b (.sl j 0 i sz len none)) :: r => (match H.get j with
      | some (.own t' e' xs f') => if h : t' = t then (bif Nat.beq e' e && ((!f || f') && Nat.beq sz t.size) then some ⟨(List.take i (castL h xs), List.take len (List.drop i (castL h xs)), List.drop (i + len) (castL h xs)), r, [j], []⟩ else none) else none
      | _ => none)
    | _ => none
def instS : (p : Pat) → p.den → Nat → List Seg × Hp × Nat
  | .ty t, x, nx => openT t x nx
  | .own t e, x, nx => ([.one (.b (.row nx))], [(nx, .own t e x false)], nx + 1)
  | .ptr T p, x, nx => match instS p x (nx + 1) with | (l, u, nx') => ([.one (.b (.ptr nx 0 0 0))], (nx, .blk T l) :: u, nx')
  | .pr a b, x, nx => match instS a x.1 nx with | (l1, u1, n1) => match instS b x.2 n1 with | (l2, u2, n2) => (l1 ++ l2, u1 ++ u2, n2)
  | .unit, _, nx => ([], [], nx)
  | .nils, _, nx => ([.one (.b .nilsl)], [], nx)
  | .fn g p q, x, nx => match instS p x.1 nx with | (l1, u1, n1) => match instS q x.2 n1 with | (l2, u2, n2) => ([fnSeg g l1 l2], u1 ++ u2, n2)
  | .wnd t e f, x, nx => ([.one (.b (.sl nx 0 x.1.length t.size x.2.1.length none))], [(nx, .own t e (x.1 ++ (x.2.1 ++ x.2.2)) f)], nx + 1)

theorem RelG.split {φ : Ph} {A : Nat → Prop} {l : List Seg} : ∀ {cs : List Value} (n : Nat), RelG φ A l cs → ∃ c1 c2, cs = c1 ++ c2 ∧ RelG φ A (l.take n) c1 ∧ RelG φ A (l.drop n) c2 := by
  induction l with
  | nil => intro cs n h; exact ⟨[], cs, rfl, by simp; rfl, by simpa using h⟩
  | cons x l ih =>
    intro cs n h
    cases n with
    | zero => exact ⟨[], cs, rfl, rfl, h⟩
    | succ n =>
      cases x with
      | one s =>
        obtain ⟨c, cs', rfl, h1, h2, h3⟩ := h
        obtain ⟨c1, c2, rfl, g1, g2⟩ := ih n h3
        exact ⟨c :: c1, c2, rfl, ⟨c, c1, rfl, h1, h2, g1⟩, g2⟩
      | arr k m a =>
        obtain ⟨cs', rfl, h3⟩ := h
        obtain ⟨c1, c2, rfl, g1, g2⟩ := ih n h3
        exact ⟨ints k a.l ++ c1, c2, by rw [List.append_assoc], ⟨c1, rfl, g1⟩, g2⟩
section
variable {A : Nat → Prop} {φ : Ph} {H : Hp} {w : World}
theorem Kept.sub {N N' : Nat → Prop} (h : ∀ k, N' k → N k) : Kept N N' w w := ⟨Nat.le_refl _, fun k _ hn => ⟨rfl, fun hn' => hn (h k hn')⟩⟩
theorem mutOf_mem {ids : List Nat} {i : Nat} {oi : Obj} (hi : i ∈ ids) (hg : H.get i = some oi) (hm : oi.mut = true) : i ∈ mutOf H ids := by
  unfold mutOf
  refine List.mem_filter.2 ⟨hi, ?_⟩
  rw [hg]
  cases oi <;> first | rfl | cases hm

/-! ### what was read off, laid anew under names of its own -/
structure Laid (A : Nat → Prop) (φ : Ph) (H : Hp) (w : World) (A0 : Nat → Prop) (φ0 : Ph) (lo hi : Nat) (u : Hp) (cm cf fx : List Nat) (A' : Nat → Prop) (φ' : Ph) : Prop where
  le : lo ≤ hi
  agree : Agree φ0 φ' A0 A'
  only : ∀ j, A' j → A0 j ∨ (lo ≤ j ∧ j < hi)
  ids : ∀ j o, u.get j = some o → A' j ∧ ((lo ≤ j ∧ j < hi) ∨ j ∈ fx)
  muts : ∀ j o, u.get j = some o → o.mut = true → ∀ ad, (φ' j).addr = some ad → ∃ i oi, i ∈ cm ∧ H.get i = some oi ∧ oi.mut = true ∧ (φ i).addr = some ad
  rep : ∀ j o, u.get j = some o → ∀ N' : Nat → Prop, (∀ k, N' k → MB φ H k) → (∀ i ∈ cf, ∀ oi, H.get i = some oi → oi.mut = true → ∀ ad, (φ i).addr = some ad → ¬ N' ad.block) → RepO φ' A' N' w (φ' j) o
  inj : ∀ j j' o o' ad ad', j ≠ j' → u.get j = some o → u.get j' = some o' → o.mut = true → o'.mut = true → (φ' j).addr = some ad → (φ' j').addr = some ad' → ad.block ≠ ad'.block
theorem Laid.nil {A0 : Nat → Prop} {φ0 : Ph} {lo : Nat} {cm cf fx : List Nat} : Laid A φ H w A0 φ0 lo lo [] cm cf fx A0 φ0 := ⟨Nat.le_refl _, .refl _ _, fun _ h => .inl h, fun j o h => (by cases h), fun j o h => (by cases h), fun j o h => (by cases h), fun j j' o o' ad ad' _ h => (by cases h)⟩
/-- one behind the other -/
theorem Laid.app {A0 A1 A2 : Nat → Prop} {φ0 φ1 φ2 : Ph} {lo mid hi : Nat} {u1 u2 : Hp} {cm1 cm2 cf1 cf2 fx1 fx2 : List Nat} (hH : RepH A φ H w) (h1 : Laid A φ H w A0 φ0 lo mid u1 cm1 cf1 fx1 A1 φ1) (hnd : (cm1 ++ cm2).Nodup)
    (h2 : Laid A φ H w A1 φ1 mid hi u2 cm2 cf2 fx2 A2 φ2) : Laid A φ H w A0 φ0 lo hi (u1 ++ u2) (cm1 ++ cm2) (cf1 ++ cf2) (fx1 ++ fx2) A2 φ2 := by
  have get : ∀ j o, Hp.get (u1 ++ u2) j = some o → u1.get j = some o ∨ (u1.get j = none ∧ u2.get j = some o) := by
    intro j o hj
    rw [Hp.get_app] at hj
    cases hu : u1.get j with
    | none => rw [hu] at hj; exact .inr ⟨rfl, hj⟩
    | some x => rw [hu] at hj; exact .inl hj
  have e1 : ∀ j o, u1.get j = some o → φ2 j = φ1 j ∧ A2 j := fun j o hj => h2.agree j (h1.ids j o hj).1
  refine ⟨Nat.le_trans h1.le h2.le, h1.agree.trans h2.agree, fun j hj => ?_, fun j o hj => ?_, fun j o hj hm ad ha => ?_, fun j o hj N' hs hf => ?_, fun j j' o o' ad ad' hne hj hj' hm hm' ha ha' => ?_⟩
  · rcases h2.only j hj with h | h
    · exact (h1.only j h).imp id fun h => ⟨h.1, Nat.lt_of_lt_of_le h.2 h2.le⟩
    · exact .inr ⟨Nat.le_trans h1.le h.1, h.2⟩
  · rcases get j o hj with h | ⟨_, h⟩
    · obtain ⟨a, b⟩ := h1.ids j o h; exact ⟨(e1 j o h).2, b.imp (fun b => ⟨b.1, Nat.lt_of_lt_of_le b.2 h2.le⟩) fun b => List.mem_append_left _ b⟩
    · obtain ⟨a, b⟩ := h2.ids j o h; exact ⟨a, b.imp (fun b => ⟨Nat.le_trans h1.le b.1, b.2⟩) fun b => List.mem_append_right _ b⟩
  · rcases get j o hj with h | ⟨_, h⟩
    · rw [(e1 j o h).1] at ha
      obtain ⟨i, oi, g1, g2⟩ := h1.muts j o h hm ad ha
      exact ⟨i, oi, List.mem_append_left _ g1, g2⟩
    · obtain ⟨i, oi, g1, g2⟩ := h2.muts j o h hm ad ha
      exact ⟨i, oi, List.mem_append_right _ g1, g2⟩
  · rcases get j o hj with h | ⟨_, h⟩
    · rw [(e1 j o h).1]
      exact (h1.rep j o h N' hs fun i hi => hf i (List.mem_append_left _ hi)).kept h2.agree (Kept.refl _ _) fun _ _ _ => rfl
    · exact h2.rep j o h N' hs fun i hi => hf i (List.mem_append_right _ hi)
  · have cross : ∀ j j' o o' ad ad', u1.get j = some o → u2.get j' = some o' → o.mut = true → o'.mut = true → (φ2 j).addr = some ad → (φ2 j').addr = some ad' → ad.block ≠ ad'.block := by
      intro j j' o o' ad ad' hj hj' hm hm' ha ha'
      rw [(e1 j o hj).1] at ha
      obtain ⟨i, oi, g1, g2, g3, g4⟩ := h1.muts j o hj hm ad ha
      obtain ⟨i', oi', g1', g2', g3', g4'⟩ := h2.muts j' o' hj' hm' ad' ha'
      have hne : i ≠ i' := fun e => by subst e; exact (List.nodup_append.1 hnd).2.2 i g1 i g1' rfl
      exact hH.sep i i' oi oi' ad ad' hne g2 g2' g3 g3' g4 g4'
    rcases get j o hj with h | ⟨_, h⟩ <;> rcases get j' o' hj' with h' | ⟨_, h'⟩
    · rw [(e1 j o h).1] at ha; rw [(e1 j' o' h').1] at ha'
      exact h1.inj j j' o o' ad ad' hne h h' hm hm' ha ha'
    · exact cross j j' o o' ad ad' h h' hm hm' ha ha'
    · exact (cross j' j o' o ad' ad h' h hm' hm ha' ha).symm
    · exact h2.inj j j' o o' ad ad' hne h h' hm hm' ha ha'

/-- the first elements of an owned row are an owned row -/
theorem RepO.shrink {φ : Ph} {A N : Nat → Prop} {w : World} {b : Bs} {t : Ty} {e : TypeId} {xs : List t.den} {f : Bool} (h : RepO φ A N w b (.own t e xs f)) {n : Nat} (hn : n ≤ List.length xs) : RepO φ A N w ⟨b.addr, b.cap, n⟩ (.own t e (List.take n xs) false) := by
  obtain ⟨css, q1, q2, q3, q4, q5, q6⟩ := h
  have hlen : (List.take n xs).length = n := by rw [List.length_take]; omega
  have h1' : (css.take n).flatten.length = n * t.size := by rw [flat_len (fun cs x h => RepD.len h) (q1.take n), hlen]
  refine ⟨css.take n, q1.take n, ?_, hlen.symm, fun e => (by cases e), q5, q6⟩
  rw [hlen]
  rcases own_open q2 with ⟨e1, e2, e3⟩ | ⟨g, cap, sp, e1, hb, hB, h1, h2, h3, h4⟩
  · injection e1 with a1 a2 a3
    have hn0 : n = 0 := by omega
    subst hn0
    rw [a1, a3, show (css.take 0).flatten = [] from rfl]
    exact ⟨by simp, .inl ⟨rfl, rfl⟩⟩
  · injection e1 with a1 a2 a3
    rw [a1, a3]
    have hfl : css.flatten = (css.take n).flatten ++ (css.drop n).flatten := by rw [← List.flatten_append, List.take_append_drop]
    have happ : css.flatten ++ sp = (css.take n).flatten ++ ((css.drop n).flatten ++ sp) := by rw [hfl, List.append_assoc]
    exact own_mk hb (by rw [← happ]; exact hB) h1' (by rw [← happ]; exact h2) (by omega) h4
theorem relG_bvs {A : Nat → Prop} {φ : Ph} : ∀ {l : List BV} {vs : List Value}, All2 (fun x v => RelB φ A x v) l vs → noUndef l = true → RelG φ A (bvSegs l) vs := by
  intro l
  induction l with
  | nil => intro vs h _; cases vs with
    | nil => rfl
    | cons _ _ => exact h.elim
  | cons b l ih =>
    intro vs h hu
    cases vs with
    | nil => exact h.elim
    | cons v vs =>
      simp only [noUndef, List.all_cons, Bool.and_eq_true] at hu
      refine ⟨v, vs, rfl, h.1, RelS.one (s := .b b) h.1 fun e => ?_, ih h.2 hu.2⟩
      cases e
      cases hu.1
theorem segBvs_rel {A : Nat → Prop} {φ : Ph} : ∀ {l : List Seg} {fs : List BV} {vs : List Value}, segBvs l = some fs → RelG φ A l vs → All2 (fun x v => RelB φ A x v) fs vs := by
  intro l
  induction l with
  | nil => intro fs vs h hG; cases h; rw [show vs = [] from hG]; trivial
  | cons s l ih =>
    intro fs vs h hG
    unfold segBvs at h
    split at h
    · rename_i hh; cases hh
    · rename_i v r heq
      cases heq
      split at h
      · rename_i l' hl'
        cases h
        obtain ⟨c, cs', rfl, h1, _, h3⟩ := hG
        exact ⟨h1, ih hl' h3⟩
      · cases h
    · cases h
theorem fnSeg_rel {A : Nat → Prop} {φ : Ph} {g : FuncId} {l m : List Seg} {vs us : List Value} (h1 : RelG φ A l vs) (h2 : RelG φ A m us) : RelG φ A [fnSeg g l m] [.func (.func g) vs.toArray us.toArray] := by
  unfold fnSeg
  split
  · rename_i fs cs e1 e2
    exact ⟨_, [], rfl, ⟨vs, us, rfl, segBvs_rel e1 h1, segBvs_rel e2 h2⟩, rfl, rfl⟩
  · exact ⟨_, [], rfl, trivial, rfl, rfl⟩
theorem decS_spec (hH : RepH A φ H w) : ∀ {p : Pat} {l : List Seg} {cs : List Value} {d : Dec p.den} {lo : Nat} {A0 : Nat → Prop} {φ0 : Ph}, decS H p l = some d → RelG φ A l cs → d.cm.Nodup → Fresh A0 lo (instS p d.x lo).2.2 →
    ∃ c1 c2 A' φ', cs = c1 ++ c2 ∧ RelG φ A d.rest c2 ∧ Agree φ0 φ' A0 A' ∧ (∀ j, A' j → A0 j ∨ (lo ≤ j ∧ j < (instS p d.x lo).2.2)) ∧ RelG φ' A' (instS p d.x lo).1 c1 ∧
      (∀ j o, (instS p d.x lo).2.1.get j = some o → lo ≤ j ∧ j < (instS p d.x lo).2.2 ∧ A' j) ∧
      (∀ j o, (instS p d.x lo).2.1.get j = some o → o.mut = true → ∀ ad, (φ' j).addr = some ad → ∃ i oi, i ∈ d.cm ∧ H.get i = some oi ∧ oi.mut = true ∧ (φ i).addr = some ad) ∧
      (∀ j o, (instS p d.x lo).2.1.get j = some o → ∀ N' : Nat → Prop, (∀ k, N' k → MB φ H k) → (∀ i ∈ d.cf, ∀ oi, H.get i = some oi → oi.mut = true → ∀ ad, (φ i).addr = some ad → ¬ N' ad.block) → RepO φ' A' N' w (φ' j) o) ∧
      (∀ j j' o o' ad ad', j ≠ j' → (instS p d.x lo).2.1.get j = some o → (instS p d.x lo).2.1.get j' = some o' → o.mut = true → o'.mut = true → (φ' j).addr = some ad → (φ' j').addr = some ad' → ad.block ≠ ad'.block) ∧
      lo ≤ (instS p d.x lo).2.2 := by
  intro p
  induction p with
  | ty t =>
    intro l cs d lo A0 φ0 h hG hnd hf
    unfold decS at h
    split at h
    · rename_i x hx
      cases hb : rdOk H (segIds (l.take t.nseg)) with
      | false => rw [hb] at h; cases h
      | true =>
        rw [hb] at h; cases h
        obtain ⟨c1, c2, rfl, g1, g2⟩ := hG.split t.nseg
        have close : ∀ N' : Nat → Prop, (∀ k, N' k → MB φ H k) → (∀ i ∈ mutOf H (segIds (l.take t.nseg)), ∀ oi, H.get i = some oi → oi.mut = true → ∀ ad, (φ i).addr = some ad → ¬ N' ad.block) → RepD N' w t c1 x := by
          intro N' hs hfz
          obtain ⟨⟨d1, d2, e, e2, e3⟩, _⟩ := closeT_spec hH hs g1 hx fun j hj oj hgj hmj ad ha => hfz j (mutOf_mem hj hgj hmj) oj hgj hmj ad ha
          have e2' : d2 = [] := e2
          subst e2'
          rw [List.append_nil] at e
          rw [e]; exact e3
        have hd0 := close (fun _ => False) (fun _ h => h.elim) (fun _ _ _ _ _ _ _ h => h)
        obtain ⟨A', φ', hop, hG'⟩ := openT_spec (A := A0) (φ := φ0) (lo := lo) hd0 hf
        refine ⟨c1, c2, A', φ', rfl, g2, hop.agree, hop.only, hG', fun j o hj => ?_, fun j o hj hm => ?_, fun j o hj N' hs hfz => ?_, fun j j' o o' ad ad' _ hj _ hm => ?_, hop.le⟩
        · obtain ⟨a, b, c, _⟩ := hop.objs j o hj; exact ⟨a, b, c⟩
        · obtain ⟨_, _, _, b, _⟩ := hop.objs j o hj; rw [b] at hm; cases hm
        · -- the objects, once more, from what holds under N'
          have hd := close N' hs hfz
          have key : ∀ {t : Ty} {cs : List Value} {x : t.den} {A0 : Nat → Prop} {φ0 : Ph} {lo : Nat} {A' : Nat → Prop} {φ' : Ph}, RepD N' w t cs x → Fresh A0 lo (openT t x lo).2.2 → Agree φ0 φ' A0 A' → RelG φ' A' (openT t x lo).1 cs → (∀ j o, (openT t x lo).2.1.get j = some o → (∃ N0, RepO φ' A' N0 w (φ' j) o)) →
              ∀ j o, (openT t x lo).2.1.get j = some o → RepO φ' A' N' w (φ' j) o := by
            intro t
            induction t with
            | pr a b iha ihb =>
              intro cs x A0 φ0 lo A' φ' hd hf hag hG hex j o hj
              obtain ⟨d1, d2, rfl, k1, k2⟩ := hd
              have e : openT (.pr a b) x lo = ((openT a x.1 lo).1 ++ (openT b x.2 (openT a x.1 lo).2.2).1, (openT a x.1 lo).2.1 ++ (openT b x.2 (openT a x.1 lo).2.2).2.1, (openT b x.2 (openT a x.1 lo).2.2).2.2) := rfl
              rw [e] at hj hG hex hf
              simp only at hj hG hex hf
              have hsplit : RelG φ' A' (openT a x.1 lo).1 d1 ∧ RelG φ' A' (openT b x.2 (openT a x.1 lo).2.2).1 d2 := by
                have key2 : ∀ (l m : List Seg) (c1 c2 : List Value), RelG φ' A' (l ++ m) (c1 ++ c2) → c1.length = segsN l → RelG φ' A' l c1 ∧ RelG φ' A' m c2 := by
                  intro l
                  induction l with
                  | nil =>
                    intro m c1 c2 h hl
                    have : c1 = [] := List.eq_nil_of_length_eq_zero hl
                    subst this
                    exact ⟨rfl, h⟩
                  | cons s l ih =>
                    intro m c1 c2 h hl
                    cases s with
                    | one s =>
                      obtain ⟨c, cs', e, h1, h2, h3⟩ := h
                      cases c1 with
                      | nil => simp [segsN, Seg.n] at hl; omega
                      | cons q c1 =>
                        rw [List.cons_append] at e
                        obtain ⟨rfl, e2⟩ := List.cons.inj e
                        rw [← e2] at h3
                        obtain ⟨p1, p2⟩ := ih m c1 c2 h3 (by simp [segsN, Seg.n] at hl ⊢; omega)
                        exact ⟨⟨q, c1, rfl, h1, h2, p1⟩, p2⟩
                    | arr k n ar =>
                      obtain ⟨cs', e, h3⟩ := h
                      have hal : (ints k ar.l).length = n := by rw [length_ints, ar.h]
                      have hcl : c1.length = n + segsN l := by simpa [segsN, Seg.n] using hl
                      have e3 : c1 = ints k ar.l ++ c1.drop n := by
                        have h4 := congrArg (List.take n) e
                        rw [List.take_append_of_le_length (by omega), List.take_left' hal] at h4
                        conv => lhs; rw [← List.take_append_drop n c1, h4]
                      rw [e3, List.append_assoc] at e
                      have e4 := List.append_cancel_left e
                      rw [← e4] at h3
                      obtain ⟨p1, p2⟩ := ih m (c1.drop n) c2 h3 (by rw [List.length_drop]; omega)
                      exact ⟨⟨c1.drop n, e3, p1⟩, p2⟩
                refine key2 _ _ _ _ hG ?_
                rw [k1.len]
                have hnn : ∀ (t : Ty) (x : t.den) (n : Nat), segsN (openT t x n).1 = t.size := by
                  intro t
                  induction t with
                  | pr a b iha ihb =>
                    intro x n
                    have app : ∀ l m : List Seg, segsN (l ++ m) = segsN l + segsN m := by
                      intro l m
                      induction l with
                      | nil => simp [segsN]
                      | cons s l ih => simp only [List.cons_append, segsN, List.foldr_cons] at ih ⊢; omega
                    show segsN ((openT a x.1 n).1 ++ (openT b x.2 (openT a x.1 n).2.2).1) = _
                    rw [app, iha, ihb]; rfl
                  | arr k m => intro x n; show m + 0 = m; rfl
                  | _ => intro x n; rfl
                exact (hnn _ _ _).symm
              have hle : (openT a x.1 lo).2.2 ≤ (openT b x.2 (openT a x.1 lo).2.2).2.2 := openT_le _ _ _
              rw [Hp.get_app] at hj
              cases hu : (openT a x.1 lo).2.1.get j with
              | some o' =>
                rw [hu] at hj; cases hj
                exact iha (A0 := A0) (φ0 := φ0) k1 (fun q h1 h2 => hf q h1 (Nat.lt_of_lt_of_le h2 hle)) hag hsplit.1 (fun q o hq => hex q o (by rw [Hp.get_app, hq])) j o hu
              | none =>
                rw [hu] at hj
                refine ihb (A0 := A0) (φ0 := φ0) k2 (fun q h1 h2 => hf q (Nat.le_trans (openT_le _ _ _) h1) h2) hag hsplit.2 (fun q o hq => ?_) j o hj
                cases hu2 : (openT a x.1 lo).2.1.get q with
                | none => exact hex q o (by rw [Hp.get_app, hu2]; exact hq)
                | some o' =>
                  exfalso
                  -- ids of the two parts are apart
                  have rng : ∀ (t : Ty) (x : t.den) (n q : Nat) (o : Obj), (openT t x n).2.1.get q = some o → n ≤ q ∧ q < (openT t x n).2.2 := by
                    intro t
                    induction t with
                    | pr a b iha ihb =>
                      intro x n q o hq
                      have hq' : Hp.get ((openT a x.1 n).2.1 ++ (openT b x.2 (openT a x.1 n).2.2).2.1) q = some o := hq
                      rw [Hp.get_app] at hq'
                      split at hq'
                      · rename_i hh
                        obtain ⟨z1, z2⟩ := iha _ _ _ _ hh
                        exact ⟨z1, Nat.lt_of_lt_of_le z2 (openT_le _ _ _)⟩
                      · obtain ⟨z1, z2⟩ := ihb _ _ _ _ hq'
                        exact ⟨Nat.le_trans (openT_le _ _ _) z1, z2⟩
                    | sl t =>
                      intro x n q o hq
                      obtain ⟨rfl, _⟩ := get_one hq
                      exact ⟨Nat.le_refl _, Nat.lt_succ_self _⟩
                    | _ => intro x n q o hq; cases hq
                  have r1 := rng a x.1 lo q o' hu2
                  have r2 := rng b x.2 _ q o hq
                  omega
            | sl t =>
              intro cs x A0 φ0 lo A' φ' hd hf hag hG hex j o hj
              obtain ⟨rfl, rfl⟩ := get_one hj
              obtain ⟨N0, css0, _, _, q3, q4, q5, _⟩ := hex j _ (get_self _ _ _)
              obtain ⟨a, c, e1, h1, h2, h3, css, h4, h5⟩ := hd
              obtain ⟨v, cs', e2, ⟨_, e3, _⟩, _, _⟩ := hG
              rw [e1] at e2
              obtain ⟨rfl, _⟩ := List.cons.inj e2
              injection e3 with ea _ ec
              subst ea; subst ec
              exact ⟨css, h4, h5, q3, q4, q5, h3⟩
            | _ => intro cs x A0 φ0 lo A' φ' hd hf hag hG hex j o hj; cases hj
          exact key hd hf hop.agree hG' (fun q o hq => ⟨fun _ => False, (hop.objs q o hq).2.2.2.2 _ w (Kept.refl _ _)⟩) j o hj
        · obtain ⟨_, _, _, b, _⟩ := hop.objs j o hj; rw [b] at hm; cases hm
    · cases h
  | own t e =>
    intro l cs d lo A0 φ0 h hG hnd hf
    have hl : ¬ A0 lo := hf lo (Nat.le_refl _) (Nat.lt_succ_self _)
    unfold decS at h
    split at h
    · rename_i r
      cases h
      obtain ⟨c, cs', rfl, h1, h2, h3⟩ := hG
      have h1' : c = .slice none 0 0 := h1
      subst h1'
      refine ⟨[.slice none 0 0], cs', plus A0 lo, upd φ0 lo ⟨none, 0, 0⟩, rfl, h3, agree_upd hl, fun j hj => hj.imp id fun e => by subst e; exact ⟨Nat.le_refl _, Nat.lt_succ_self _⟩, ⟨_, [], rfl, ⟨.inr rfl, by rw [upd_same], by rw [upd_same]; exact Nat.le_refl _, fun _ => by rw [upd_same]⟩, rfl, rfl⟩, ?_, ?_, ?_, ?_, Nat.le_succ _⟩
      · intro j o hj; obtain ⟨rfl, _⟩ := get_one hj; exact ⟨Nat.le_refl _, Nat.lt_succ_self _, .inr rfl⟩
      · intro j o hj _ ad ha; obtain ⟨rfl, _⟩ := get_one hj; rw [upd_same] at ha; cases ha
      · intro j o hj N' _ _
        obtain ⟨rfl, rfl⟩ := get_one hj
        rw [upd_same]
        exact ⟨[], trivial, ⟨by simp, .inl ⟨rfl, rfl⟩⟩, rfl, fun e => (by cases e), fun _ => rfl, fun _ _ ad _ _ ha => (by cases ha)⟩
      · intro j j' o o' ad ad' hne hj hj'; obtain ⟨rfl, _⟩ := get_one hj; obtain ⟨rfl, _⟩ := get_one hj'; exact absurd rfl hne
    · rename_i i r
      split at h
      · rename_i t' e' xs f hg
        split at h
        · rename_i ht
          subst ht
          cases he : Nat.beq e' e with
          | false => rw [he] at h; cases h
          | true =>
            rw [he] at h; cases h
            have he := Nat.eq_of_beq_eq_true he
            subst he
            obtain ⟨c, cs', rfl, h1, h2, h3⟩ := hG
            obtain ⟨hA, e1, k1, k2⟩ := h1
            have hob := hH.obj i _ hg
            have hcl : (φ i).clen = List.length xs := by obtain ⟨_, _, _, h5, _⟩ := hob; exact h5
            refine ⟨[c], cs', plus A0 lo, upd φ0 lo (φ i), rfl, h3, agree_upd hl, fun j hj => hj.imp id fun e => by subst e; exact ⟨Nat.le_refl _, Nat.lt_succ_self _⟩, ⟨c, [], rfl, ⟨.inr rfl, by rw [upd_same]; exact e1, by rw [upd_same]; exact k1, by rw [upd_same]; exact k2⟩, h2, rfl⟩, ?_, ?_, ?_, ?_, Nat.le_succ _⟩
            · intro j o hj; obtain ⟨rfl, _⟩ := get_one hj; exact ⟨Nat.le_refl _, Nat.lt_succ_self _, .inr rfl⟩
            · intro j o hj _ ad ha
              obtain ⟨rfl, _⟩ := get_one hj
              rw [upd_same] at ha
              exact ⟨i, _, List.mem_singleton.2 rfl, hg, rfl, ha⟩
            · intro j o hj N' hs _
              obtain ⟨rfl, rfl⟩ := get_one hj
              rw [upd_same]
              obtain ⟨css, q1, q2, q3, q4, q5, q6⟩ := hob
              exact ⟨css, q1.mono fun _ _ => RepD.sub hs, q2, q3, fun e => (by cases e), q5, q6⟩
            · intro j j' o o' ad ad' hne hj hj'; obtain ⟨rfl, _⟩ := get_one hj; obtain ⟨rfl, _⟩ := get_one hj'; exact absurd rfl hne
        · cases h
      · cases h
    · rename_i i sz len r
      split at h
      · rename_i t' e' xs f hg
        split at h
        · rename_i ht
          subst ht
          cases he : Nat.beq e' e with
          | false => rw [he] at h; cases h
          | true =>
            rw [he] at h; cases h
            have he := Nat.eq_of_beq_eq_true he
            subst he
            obtain ⟨c, cs', rfl, h1, h2, h3⟩ := hG
            obtain ⟨hA, a, c0, e1, k1, k2, _, _, k5, k6, k7⟩ := h1
            have hle : len ≤ List.length xs := by
              obtain ⟨_, _, _, h5, _⟩ := hH.obj i _ hg
              have k6' : 0 + len ≤ (φ i).clen := k6
              omega
            have ha : a = (φ i).addr := k7 rfl rfl
            have hcap : c0 = (φ i).cap := by simpa using k5
            subst ha; subst hcap
            have hob := hH.obj i _ hg
            refine ⟨[c], cs', plus A0 lo, upd φ0 lo ⟨(φ i).addr, (φ i).cap, len⟩, rfl, h3, agree_upd hl, fun j hj => hj.imp id fun e => by subst e; exact ⟨Nat.le_refl _, Nat.lt_succ_self _⟩, ⟨c, [], rfl, ⟨.inr rfl, by rw [upd_same]; exact e1, by rw [upd_same]; exact k1, by rw [upd_same]; exact k2⟩, h2, rfl⟩, ?_, ?_, ?_, ?_, Nat.le_succ _⟩
            · intro j o hj; obtain ⟨rfl, _⟩ := get_one hj; exact ⟨Nat.le_refl _, Nat.lt_succ_self _, .inr rfl⟩
            · intro j o hj _ ad ha
              obtain ⟨rfl, _⟩ := get_one hj
              rw [upd_same] at ha
              exact ⟨i, _, List.mem_singleton.2 rfl, hg, rfl, ha⟩
            · intro j o hj N' hs _
              obtain ⟨rfl, rfl⟩ := get_one hj
              rw [upd_same]
              obtain ⟨css, q1, q2, q3, q4, q5, q6⟩ := hob.shrink hle
              exact ⟨css, q1.mono fun _ _ => RepD.sub hs, q2, q3, fun e => (by cases e), q5, q6⟩
            · intro j j' o o' ad ad' hne hj hj'; obtain ⟨rfl, _⟩ := get_one hj; obtain ⟨rfl, _⟩ := get_one hj'; exact absurd rfl hne
        · cases h
      · cases h
    · cases h
  | wnd t e f =>
    intro l cs d lo A0 φ0 h hG hnd hf
    have hl : ¬ A0 lo := hf lo (Nat.le_refl _) (Nat.lt_succ_self _)
    unfold decS at h
    split at h
    · rename_i r
      cases h
      obtain ⟨c, cs', rfl, h1, h2, h3⟩ := hG
      have h1' : c = .slice none 0 0 := h1
      subst h1'
      refine ⟨[.slice none 0 0], cs', plus A0 lo, upd φ0 lo ⟨none, 0, 0⟩, rfl, h3, agree_upd hl, fun j hj => hj.imp id fun e => by subst e; exact ⟨Nat.le_refl _, Nat.lt_succ_self _⟩, ⟨_, [], rfl, ⟨.inr rfl, none, 0, rfl, Nat.le_refl _, fun _ => rfl, fun ad ha => (by cases ha), fun hp => absurd hp (by omega), by rw [upd_same]; rfl, by rw [upd_same]; exact Nat.le_refl _, fun _ _ => by rw [upd_same]⟩, rfl, rfl⟩, ?_, ?_, ?_, ?_, Nat.le_succ _⟩
      · intro j o hj; obtain ⟨rfl, _⟩ := get_one hj; exact ⟨Nat.le_refl _, Nat.lt_succ_self _, .inr rfl⟩
      · intro j o hj _ ad ha; obtain ⟨rfl, _⟩ := get_one hj; rw [upd_same] at ha; cases ha
      · intro j o hj N' _ _
        obtain ⟨rfl, rfl⟩ := get_one hj
        rw [upd_same]
        exact ⟨[], trivial, ⟨by simp, .inl ⟨rfl, rfl⟩⟩, rfl, fun _ => rfl, fun _ => rfl, fun _ _ ad _ _ ha => (by cases ha)⟩
      · intro j j' o o' ad ad' hne hj hj'; obtain ⟨rfl, _⟩ := get_one hj; obtain ⟨rfl, _⟩ := get_one hj'; exact absurd rfl hne
    · rename_i i r
      split at h
      · rename_i t' e' xs f' hg
        split at h
        · rename_i ht
          subst ht
          cases he : Nat.beq e' e && (!f || f') with
          | false => rw [he] at h; cases h
          | true =>
            rw [he] at h; cases h
            obtain ⟨he, hff⟩ := Bool.and_eq_true_iff.1 he
            have he := Nat.eq_of_beq_eq_true he
            subst he
            obtain ⟨c, cs', rfl, h1, h2, h3⟩ := hG
            obtain ⟨hA, e1, k1, k2⟩ := h1
            have hob := hH.obj i _ hg
            have hcl : (φ i).clen = List.length xs := by obtain ⟨_, _, _, h5, _⟩ := hob; exact h5
            have hsl : RelB (upd φ0 lo (φ i)) (plus A0 lo) (.sl lo 0 0 t'.size (List.length xs) none) c := by
              rw [hcl] at e1 k1
              refine ⟨.inr rfl, _, _, e1, k1, k2, fun ad ha => ⟨ad, by rw [upd_same]; exact ha, rfl⟩, fun hp => ?_, by simp [upd_same], by simp [upd_same, hcl], fun _ _ => by rw [upd_same]⟩
              cases ha : (φ i).addr with
              | none => have := k2 ha; omega
              | some ad => exact ⟨ad, by rw [upd_same]; exact ha, by cases ad; simp [Addr.add]⟩
            refine ⟨[c], cs', plus A0 lo, upd φ0 lo (φ i), rfl, h3, agree_upd hl, fun j hj => hj.imp id fun e => by subst e; exact ⟨Nat.le_refl _, Nat.lt_succ_self _⟩, ⟨c, [], rfl, hsl, h2, rfl⟩, ?_, ?_, ?_, ?_, Nat.le_succ _⟩
            · intro j o hj; obtain ⟨rfl, _⟩ := get_one hj; exact ⟨Nat.le_refl _, Nat.lt_succ_self _, .inr rfl⟩
            · intro j o hj _ ad ha
              obtain ⟨rfl, _⟩ := get_one hj
              rw [upd_same] at ha
              exact ⟨i, _, List.mem_singleton.2 rfl, hg, rfl, ha⟩
            · intro j o hj N' hs _
              obtain ⟨rfl, rfl⟩ := get_one hj
              rw [upd_same]
              obtain ⟨css, q1, q2, q3, q4, q5, q6⟩ := hob
              have exs : ([] : List t'.den) ++ (xs ++ []) = xs := by simp
              show RepO _ _ N' w (φ i) (.own t' e' ([] ++ (xs ++ [])) f)
              rw [exs]
              exact ⟨css, q1.mono fun _ _ => RepD.sub hs, q2, q3, fun e => q4 (by subst e; simpa using hff), q5, q6⟩
            · intro j j' o o' ad ad' hne hj hj'; obtain ⟨rfl, _⟩ := get_one hj; obtain ⟨rfl, _⟩ := get_one hj'; exact absurd rfl hne
        · cases h
      · cases h
    · rename_i i i0 sz len r
      split at h
      · rename_i t' e' xs f' hg
        split at h
        · rename_i ht
          subst ht
          cases he : Nat.beq e' e && ((!f || f') && Nat.beq sz t'.size) with
          | false => rw [he] at h; cases h
          | true =>
            rw [he] at h; cases h
            simp only [Bool.and_eq_true] at he
            obtain ⟨he, hff, hsz⟩ := he
            have he := Nat.eq_of_beq_eq_true he
            have hsz := Nat.eq_of_beq_eq_true hsz
            subst he; subst hsz
            obtain ⟨c, cs', rfl, h1, h2, h3⟩ := hG
            obtain ⟨hA, a, c0, e1, k1, k2, k3, k4, k5, k6, k7⟩ := h1
            have hle : i0 + len ≤ List.length xs := by
              obtain ⟨_, _, _, h5, _⟩ := hH.obj i _ hg
              have k6' : i0 + len ≤ (φ i).clen := k6
              omega
            have hob := hH.obj i _ hg
            have l1 : (List.take i0 xs).length = i0 := by rw [List.length_take]; omega
            have l2 : (List.take len (List.drop i0 xs)).length = len := by rw [List.length_take, List.length_drop]; omega
            have hsl : RelB (upd φ0 lo (φ i)) (plus A0 lo) (.sl lo 0 (List.take i0 xs).length t'.size (List.take len (List.drop i0 xs)).length none) c := by
              rw [l1, l2]
              exact ⟨.inr rfl, a, c0, e1, k1, k2, by rw [upd_same]; exact k3, by rw [upd_same]; exact k4, by rw [upd_same]; exact k5, by rw [upd_same]; exact k6, by rw [upd_same]; exact k7⟩
            refine ⟨[c], cs', plus A0 lo, upd φ0 lo (φ i), rfl, h3, agree_upd hl, fun j hj => hj.imp id fun e => by subst e; exact ⟨Nat.le_refl _, Nat.lt_succ_self _⟩, ⟨c, [], rfl, hsl, h2, rfl⟩, ?_, ?_, ?_, ?_, Nat.le_succ _⟩
            · intro j o hj; obtain ⟨rfl, _⟩ := get_one hj; exact ⟨Nat.le_refl _, Nat.lt_succ_self _, .inr rfl⟩
            · intro j o hj _ ad ha
              obtain ⟨rfl, _⟩ := get_one hj
              rw [upd_same] at ha
              exact ⟨i, _, List.mem_singleton.2 rfl, hg, rfl, ha⟩
            · intro j o hj N' hs _
              obtain ⟨rfl, rfl⟩ := get_one hj
              rw [upd_same]
              obtain ⟨css, q1, q2, q3, q4, q5, q6⟩ := hob
              have exs : List.take i0 xs ++ (List.take len (List.drop i0 xs) ++ List.drop (i0 + len) xs) = xs := by rw [← List.drop_drop, List.take_append_drop, List.take_append_drop]
              show RepO _ _ N' w (φ i) (.own t' e' (List.take i0 xs ++ (List.take len (List.drop i0 xs) ++ List.drop (i0 + len) xs)) f)
              rw [exs]
              exact ⟨css, q1.mono fun _ _ => RepD.sub hs, q2, q3, fun e => q4 (by subst e; simpa using hff), q5, q6⟩
            · intro j j' o o' ad ad' hne hj hj'; obtain ⟨rfl, _⟩ := get_one hj; obtain ⟨rfl, _⟩ := get_one hj'; exact absurd rfl hne
        · cases h
      · cases h
    · cases h
  | ptr T p ih =>
    intro l cs d lo A0 φ0 h hG hnd hf
    unfold decS at h
    split at h
    · rename_i i r
      split at h
      · rename_i T' segs hg
        cases hT : Nat.beq T' T with
        | false => rw [hT] at h; cases h
        | true =>
          rw [hT] at h
          have hT := Nat.eq_of_beq_eq_true hT
          subst hT
          simp only [cond_true] at h
          split at h
          · rename_i x cm cf hd
            cases h
            obtain ⟨c, cs', rfl, h1, h2, h3⟩ := hG
            obtain ⟨hA, ad0, ha0, e1⟩ := h1
            obtain ⟨g, bs, e2, hB, hGb⟩ := hH.obj i _ hg
            obtain ⟨l1, u1, n1, ei⟩ : ∃ l1 u1 n1, instS p x (lo + 1) = (l1, u1, n1) := ⟨_, _, _, rfl⟩
            have einst : instS (.ptr T' p) x lo = ([.one (.b (.ptr lo 0 0 0))], (lo, .blk T' l1) :: u1, n1) := by
              simp only [instS, ei]
            simp only [einst] at hf ⊢
            have hnd' : cm.Nodup := (List.nodup_cons.1 hnd).2
            have hni : i ∉ cm := (List.nodup_cons.1 hnd).1
            have hlen1 : lo + 1 ≤ n1 := by
              have mono : ∀ (p : Pat) (x : p.den) (n : Nat), n ≤ (instS p x n).2.2 := by
                intro p
                induction p with
                | ty t => intro x n; exact openT_le t x n
                | own t e => intro x n; exact Nat.le_succ _
                | wnd t e f => intro x n; exact Nat.le_succ _
                | ptr T p ih => intro x n; exact Nat.le_trans (Nat.le_succ _) (ih x (n + 1))
                | pr a b iha ihb => intro x n; exact Nat.le_trans (iha x.1 n) (ihb x.2 _)
                | unit => intro x n; exact Nat.le_refl _
                | nils => intro x n; exact Nat.le_refl _
                | fn g a b iha ihb => intro x n; exact Nat.le_trans (iha x.1 n) (ihb x.2 _)
              have := mono p x (lo + 1); rw [ei] at this; exact this
            obtain ⟨c1, c2, A1, φ1, f1, f2, f3, f4, f5, f6, f7, f8, f9, f10⟩ := ih (d := ⟨x, [], cm, cf⟩) (lo := lo + 1) hd hGb hnd' (by simp only [ei]; exact fun j h1 h2 => hf j (by omega) h2)
            simp only [ei] at f4 f5 f6 f7 f8 f9 f10
            have f2' : c2 = [] := f2
            subst f2'
            rw [List.append_nil] at f1
            subst f1
            have hl : ¬ A1 lo := fun hA1 => (f4 lo hA1).elim (hf lo (Nat.le_refl _) (by omega)) fun hh => by omega
            have hag2 := agree_upd (φ := φ1) (b := φ i) hl
            have ne1 : ∀ j o, u1.get j = some o → lo ≠ j := fun j o hj e => by have := (f6 j o hj).1; omega
            have getu : ∀ j o, Hp.get ((lo, Obj.blk T' l1) :: u1) j = some o → (j = lo ∧ o = .blk T' l1) ∨ (lo ≠ j ∧ u1.get j = some o) := by
              intro j o hj
              by_cases h : lo = j
              · subst h; rw [get_self] at hj; cases hj; exact .inl ⟨rfl, rfl⟩
              · rw [get_ne _ _ h] at hj; exact .inr ⟨h, hj⟩
            refine ⟨[c], cs', plus A1 lo, upd φ1 lo (φ i), rfl, h3, f3.trans hag2, fun j hj => ?_, ⟨c, [], rfl, ⟨.inr rfl, ad0, by rw [upd_same]; exact ha0, e1⟩, h2, rfl⟩, fun j o hj => ?_, fun j o hj hm ad ha => ?_, fun j o hj N' hs hfz => ?_, fun j j' o o' ad ad' hne hj hj' hm hm' ha ha' => ?_, by omega⟩
            · rcases hj with hj | rfl
              · exact (f4 j hj).imp id fun h => ⟨by omega, h.2⟩
              · exact .inr ⟨Nat.le_refl _, by omega⟩
            · rcases getu j o hj with ⟨rfl, rfl⟩ | ⟨_, hj⟩
              · exact ⟨Nat.le_refl _, by omega, .inr rfl⟩
              · obtain ⟨z1, z2, z3⟩ := f6 j o hj; exact ⟨by omega, z2, .inl z3⟩
            · rcases getu j o hj with ⟨rfl, rfl⟩ | ⟨hne, hj⟩
              · rw [upd_same] at ha; exact ⟨i, _, List.mem_cons_self .., hg, rfl, ha⟩
              · rw [upd_ne _ _ (Ne.symm hne)] at ha
                obtain ⟨q, oq, y1, y2⟩ := f7 j o hj hm ad ha
                exact ⟨q, oq, List.mem_cons_of_mem _ y1, y2⟩
            · rcases getu j o hj with ⟨rfl, rfl⟩ | ⟨hne, hj⟩
              · rw [upd_same]
                exact ⟨g, bs, e2, hB, f5.up hag2⟩
              · rw [upd_ne _ _ (Ne.symm hne)]
                exact (f8 j o hj N' hs hfz).kept hag2 (Kept.refl _ _) fun _ _ _ => rfl
            · have cross : ∀ j o ad ad', u1.get j = some o → o.mut = true → (φ1 j).addr = some ad → (φ i).addr = some ad' → ad.block ≠ ad'.block := by
                intro j o ad ad' hj hm ha ha'
                obtain ⟨q, oq, y1, y2, y3, y4⟩ := f7 j o hj hm ad ha
                exact hH.sep q i oq _ ad ad' (fun e => hni (e ▸ y1)) y2 hg y3 rfl y4 ha'
              rcases getu j o hj with ⟨rfl, rfl⟩ | ⟨hn1, hj⟩ <;> rcases getu j' o' hj' with ⟨rfl, rfl⟩ | ⟨hn2, hj'⟩
              · exact absurd rfl hne
              · rw [upd_same] at ha; rw [upd_ne _ _ (Ne.symm hn2)] at ha'
                exact (cross j' o' ad' ad (by assumption) hm' ha' ha).symm
              · rw [upd_same] at ha'; rw [upd_ne _ _ (Ne.symm hn1)] at ha
                exact cross j o ad ad' (by assumption) hm ha ha'
              · rw [upd_ne _ _ (Ne.symm hn1)] at ha; rw [upd_ne _ _ (Ne.symm hn2)] at ha'
                exact f9 j j' o o' ad ad' hne (by assumption) (by assumption) hm hm' ha ha'
          · cases h
      · cases h
    · cases h
  | pr a b iha ihb =>
    intro l cs d lo A0 φ0 h hG hnd hf
    unfold decS at h
    split at h
    · rename_i x r cm cf hd1
      split at h
      · rename_i y r' cm' cf' hd2
        cases h
        obtain ⟨l1, u1, n1, e1⟩ : ∃ l1 u1 n1, instS a x lo = (l1, u1, n1) := ⟨_, _, _, rfl⟩
        obtain ⟨l2, u2, n2, e2⟩ : ∃ l2 u2 n2, instS b y n1 = (l2, u2, n2) := ⟨_, _, _, rfl⟩
        have einst : instS (.pr a b) (x, y) lo = (l1 ++ l2, u1 ++ u2, n2) := by
          show (match instS a x lo with | (l1, u1, n1) => match instS b y n1 with | (l2, u2, n2) => (l1 ++ l2, u1 ++ u2, n2)) = _
          rw [e1]
          simp only [e2]
        simp only [einst] at hf ⊢
        have hnds := List.nodup_append.1 hnd
        have mono : ∀ (p : Pat) (x : p.den) (n : Nat), n ≤ (instS p x n).2.2 := by
          intro p
          induction p with
          | ty t => intro x n; exact openT_le t x n
          | own t e => intro x n; exact Nat.le_succ _
          | wnd t e f => intro x n; exact Nat.le_succ _
          | ptr T p ih => intro x n; exact Nat.le_trans (Nat.le_succ _) (ih x (n + 1))
          | pr a b iha ihb => intro x n; exact Nat.le_trans (iha x.1 n) (ihb x.2 _)
          | unit => intro x n; exact Nat.le_refl _
          | nils => intro x n; exact Nat.le_refl _
          | fn g a b iha ihb => intro x n; exact Nat.le_trans (iha x.1 n) (ihb x.2 _)
        have hn12 : n1 ≤ n2 := by have := mono b y n1; rw [e2] at this; exact this
        obtain ⟨c1, c2, A1, φ1, rfl, f2, f3, f4, f5, f6, f7, f8, f9, f10⟩ := iha (d := ⟨x, r, cm, cf⟩) (lo := lo) hd1 hG hnds.1 (by simp only [e1]; exact fun j h1 h2 => hf j h1 (Nat.lt_of_lt_of_le h2 hn12))
        simp only [e1] at f2 f4 f5 f6 f7 f8 f9 f10
        have hf1 : Fresh A1 n1 n2 := fun j h1 h2 hA1 => (f4 j hA1).elim (hf j (Nat.le_trans f10 h1) h2) fun hh => by omega
        obtain ⟨c3, c4, A2, φ2, rfl, g2, g3, g4, g5, g6, g7, g8, g9, g10⟩ := ihb (d := ⟨y, r', cm', cf'⟩) (lo := n1) hd2 f2 hnds.2.1 (by simp only [e2]; exact hf1)
        simp only [e2] at g2 g4 g5 g6 g7 g8 g9 g10
        have getu : ∀ j o, Hp.get (u1 ++ u2) j = some o → u1.get j = some o ∨ (u1.get j = none ∧ u2.get j = some o) := by
          intro j o hj
          rw [Hp.get_app] at hj
          cases hu : u1.get j with
          | none => rw [hu] at hj; exact .inr ⟨rfl, hj⟩
          | some x => rw [hu] at hj; exact .inl hj
        have ph : ∀ j o, u1.get j = some o → φ2 j = φ1 j ∧ A2 j := fun j o hj => g3 j (f6 j o hj).2.2
        refine ⟨c1 ++ c3, c4, A2, φ2, by rw [List.append_assoc], g2, f3.trans g3, fun j hj => ?_, (f5.up g3).app g5, fun j o hj => ?_, fun j o hj hm ad ha => ?_, fun j o hj N' hs hfz => ?_, fun j j' o o' ad ad' hne hj hj' hm hm' ha ha' => ?_, Nat.le_trans f10 g10⟩
        · rcases g4 j hj with h | h
          · exact (f4 j h).imp id fun h => ⟨h.1, Nat.lt_of_lt_of_le h.2 hn12⟩
          · exact .inr ⟨Nat.le_trans f10 h.1, h.2⟩
        · rcases getu j o hj with h | ⟨_, h⟩
          · obtain ⟨z1, z2, z3⟩ := f6 j o h; exact ⟨z1, Nat.lt_of_lt_of_le z2 hn12, (ph j o h).2⟩
          · obtain ⟨z1, z2, z3⟩ := g6 j o h; exact ⟨Nat.le_trans f10 z1, z2, z3⟩
        · rcases getu j o hj with h | ⟨_, h⟩
          · rw [(ph j o h).1] at ha
            obtain ⟨i, oi, y1, y2⟩ := f7 j o h hm ad ha
            exact ⟨i, oi, List.mem_append_left _ y1, y2⟩
          · obtain ⟨i, oi, y1, y2⟩ := g7 j o h hm ad ha
            exact ⟨i, oi, List.mem_append_right _ y1, y2⟩
        · rcases getu j o hj with h | ⟨_, h⟩
          · rw [(ph j o h).1]
            exact (f8 j o h N' hs fun i hi => hfz i (List.mem_append_left _ hi)).kept g3 (Kept.refl _ _) fun _ _ _ => rfl
          · exact g8 j o h N' hs fun i hi => hfz i (List.mem_append_right _ hi)
        · have cross : ∀ j j' o o' ad ad', u1.get j = some o → u2.get j' = some o' → o.mut = true → o'.mut = true → (φ2 j).addr = some ad → (φ2 j').addr = some ad' → ad.block ≠ ad'.block := by
            intro j j' o o' ad ad' hj hj' hm hm' ha ha'
            rw [(ph j o hj).1] at ha
            obtain ⟨i, oi, y1, y2, y3, y4⟩ := f7 j o hj hm ad ha
            obtain ⟨i', oi', z1, z2, z3, z4⟩ := g7 j' o' hj' hm' ad' ha'
            exact hH.sep i i' oi oi' ad ad' (fun e => hnds.2.2 i y1 i (e ▸ z1) rfl) y2 z2 y3 z3 y4 z4
          rcases getu j o hj with h | ⟨_, h⟩ <;> rcases getu j' o' hj' with h' | ⟨_, h'⟩
          · rw [(ph j o h).1] at ha; rw [(ph j' o' h').1] at ha'
            exact f9 j j' o o' ad ad' hne h h' hm hm' ha ha'
          · exact cross j j' o o' ad ad' h h' hm hm' ha ha'
          · exact (cross j' j o' o ad' ad h' h hm' hm ha' ha).symm
          · exact g9 j j' o o' ad ad' hne h h' hm hm' ha ha'
      · cases h
    · cases h
  | unit =>
    intro l cs d lo A0 φ0 h hG hnd hf
    cases h
    exact ⟨[], cs, A0, φ0, rfl, hG, .refl _ _, fun _ h => .inl h, rfl, fun j o hj => (by cases hj), fun j o hj => (by cases hj), fun j o hj => (by cases hj), fun j j' o o' ad ad' _ hj => (by cases hj), Nat.le_refl _⟩
  | nils =>
    intro l cs d lo A0 φ0 h hG hnd hf
    unfold decS at h
    split at h
    · cases h
      obtain ⟨c, cs', rfl, h1, h2, h3⟩ := hG
      exact ⟨[c], cs', A0, φ0, rfl, h3, .refl _ _, fun _ h => .inl h, ⟨c, [], rfl, h1, h2, rfl⟩, fun j o hj => (by cases hj), fun j o hj => (by cases hj), fun j o hj => (by cases hj), fun j j' o o' ad ad' _ hj => (by cases hj), Nat.le_refl _⟩
    · cases h
  | fn g p q ihp ihq =>
    intro l cs d lo A0 φ0 h hG hnd hf
    unfold decS at h
    split at h
    · rename_i g' fs ws r
      cases hb : Nat.beq g' g && (noUndef fs && noUndef ws) with
      | false => rw [hb] at h; cases h
      | true =>
        rw [hb] at h
        simp only [cond_true] at h
        simp only [Bool.and_eq_true] at hb
        obtain ⟨b1, b2, b3⟩ := hb
        have b1 := Nat.eq_of_beq_eq_true b1
        subst b1
        split at h
        · rename_i x cm cf hd1
          split at h
          · rename_i y cm' cf' hd2
            cases h
            obtain ⟨c, cs', rfl, ⟨vs, us, rfl, r1, r2⟩, _, h3⟩ := hG
            obtain ⟨l1, u1, n1, e1⟩ : ∃ l1 u1 n1, instS p x lo = (l1, u1, n1) := ⟨_, _, _, rfl⟩
            obtain ⟨l2, u2, n2, e2⟩ : ∃ l2 u2 n2, instS q y n1 = (l2, u2, n2) := ⟨_, _, _, rfl⟩
            have einst : instS (.fn g' p q) (x, y) lo = ([fnSeg g' l1 l2], u1 ++ u2, n2) := by simp only [instS, e1, e2]
            simp only [einst] at hf ⊢
            have hnds := List.nodup_append.1 hnd
            have mono : ∀ (p : Pat) (x : p.den) (n : Nat), n ≤ (instS p x n).2.2 := by
              intro p
              induction p with
              | ty t => intro x n; exact openT_le t x n
              | own t e => intro x n; exact Nat.le_succ _
              | wnd t e f => intro x n; exact Nat.le_succ _
              | ptr T p ih => intro x n; exact Nat.le_trans (Nat.le_succ _) (ih x (n + 1))
              | pr a b iha ihb => intro x n; exact Nat.le_trans (iha x.1 n) (ihb x.2 _)
              | unit => intro x n; exact Nat.le_refl _
              | nils => intro x n; exact Nat.le_refl _
              | fn g a b iha ihb => intro x n; exact Nat.le_trans (iha x.1 n) (ihb x.2 _)
            have hn12 : n1 ≤ n2 := by have := mono q y n1; rw [e2] at this; exact this
            obtain ⟨c1, c2, A1, φ1, q1, f2, f3, f4, f5, f6, f7, f8, f9, f10⟩ := ihp (d := ⟨x, [], cm, cf⟩) (lo := lo) (φ0 := φ0) hd1 (relG_bvs r1 b2) hnds.1 (by simp only [e1]; exact fun j h1 h2 => hf j h1 (Nat.lt_of_lt_of_le h2 hn12))
            simp only [e1] at f4 f5 f6 f7 f8 f9 f10
            have f2' : c2 = [] := f2
            subst f2'
            rw [List.append_nil] at q1
            subst q1
            have L1 : Laid A φ H w A0 φ0 lo n1 u1 cm cf [] A1 φ1 := ⟨f10, f3, f4, fun j o hj => ⟨(f6 j o hj).2.2, .inl ⟨(f6 j o hj).1, (f6 j o hj).2.1⟩⟩, f7, f8, f9⟩
            have hf1 : Fresh A1 n1 n2 := fun j h1 h2 hA1 => (f4 j hA1).elim (hf j (Nat.le_trans f10 h1) h2) fun hh => by omega
            obtain ⟨c3, c4, A2, φ2, q2, g2, g3, g4, g5, g6, g7, g8, g9, g10⟩ := ihq (d := ⟨y, [], cm', cf'⟩) (lo := n1) (φ0 := φ1) hd2 (relG_bvs r2 b3) hnds.2.1 (by simp only [e2]; exact hf1)
            simp only [e2] at g4 g5 g6 g7 g8 g9 g10
            have g2' : c4 = [] := g2
            subst g2'
            rw [List.append_nil] at q2
            subst q2
            have L2 : Laid A φ H w A1 φ1 n1 n2 u2 cm' cf' [] A2 φ2 := ⟨g10, g3, g4, fun j o hj => ⟨(g6 j o hj).2.2, .inl ⟨(g6 j o hj).1, (g6 j o hj).2.1⟩⟩, g7, g8, g9⟩
            have L := L1.app hH hnd L2
            have hids : ∀ j o, Hp.get (u1 ++ u2) j = some o → lo ≤ j ∧ j < n2 ∧ A2 j := fun j o hj => by
              obtain ⟨a, b⟩ := L.ids j o hj
              rcases b with b | b
              · exact ⟨b.1, b.2, a⟩
              · cases b
            exact ⟨[_], cs', A2, φ2, rfl, h3, L.agree, L.only, fnSeg_rel (f5.up g3) g5, hids, L.muts, L.rep, L.inj, L.le⟩
          · cases h
        · cases h
    · cases h
theorem decS_laid (hH : RepH A φ H w) {p : Pat} {l : List Seg} {cs : List Value} {d : Dec p.den} {lo : Nat} {A0 : Nat → Prop} {φ0 : Ph} (hd : decS H p l = some d) (hG : RelG φ A l cs) (hnd : d.cm.Nodup) (hf : Fresh A0 lo (instS p d.x lo).2.2) :
    ∃ c1 c2 A' φ', cs = c1 ++ c2 ∧ RelG φ A d.rest c2 ∧ RelG φ' A' (instS p d.x lo).1 c1 ∧ Laid A φ H w A0 φ0 lo (instS p d.x lo).2.2 (instS p d.x lo).2.1 d.cm d.cf [] A' φ' := by
  obtain ⟨c1, c2, A', φ', h1, h2, h3, h4, h5, h6, h7, h8, h9, h10⟩ := decS_spec hH (φ0 := φ0) hd hG hnd hf
  exact ⟨c1, c2, A', φ', h1, h2, h5, ⟨h10, h3, h4, fun j o hj => ⟨(h6 j o hj).2.2, .inl ⟨(h6 j o hj).1, (h6 j o hj).2.1⟩⟩, h7, h8, h9⟩⟩
/-- a block, or a row, under a name that is there -/
theorem Laid.fix {A0 A1 : Nat → Prop} {φ0 φ1 : Ph} {lo hi j j0 : Nat} {u : Hp} {cm cf fx : List Nat} {o oi : Obj} (hH : RepH A φ H w) (h : Laid A φ H w A0 φ0 lo hi u cm cf fx A1 φ1) (hA : A0 j0) (hp : (φ0 j0).addr = (φ j).addr) (hg : H.get j = some oi) (hm : oi.mut = true) (hnd : j ∉ cm)
    (ho : ∀ N' : Nat → Prop, (∀ k, N' k → MB φ H k) → (∀ i ∈ cf, ∀ oi, H.get i = some oi → oi.mut = true → ∀ ad, (φ i).addr = some ad → ¬ N' ad.block) → RepO φ1 A1 N' w (φ1 j0) o) : Laid A φ H w A0 φ0 lo hi ((j0, o) :: u) (j :: cm) cf (j0 :: fx) A1 φ1 := by
  have hph := h.agree j0 hA
  have getu : ∀ q x, Hp.get ((j0, o) :: u) q = some x → (q = j0 ∧ x = o) ∨ (j0 ≠ q ∧ u.get q = some x) := by
    intro q x hq
    by_cases hh : j0 = q
    · subst hh; rw [get_self] at hq; cases hq; exact .inl ⟨rfl, rfl⟩
    · rw [get_ne _ _ hh] at hq; exact .inr ⟨hh, hq⟩
  have cross : ∀ q x ad ad', u.get q = some x → x.mut = true → (φ1 q).addr = some ad → (φ j).addr = some ad' → ad.block ≠ ad'.block := by
    intro q x ad ad' hq hx ha ha'
    obtain ⟨i, o', y1, y2, y3, y4⟩ := h.muts q x hq hx ad ha
    exact hH.sep i j o' oi ad ad' (fun e => hnd (e ▸ y1)) y2 hg y3 hm y4 ha'
  refine ⟨h.le, h.agree, h.only, fun q x hq => ?_, fun q x hq hx ad ha => ?_, fun q x hq N' hs hfz => ?_, fun q q' x x' ad ad' hne hq hq' hx hx' ha ha' => ?_⟩
  · rcases getu q x hq with ⟨rfl, rfl⟩ | ⟨_, hq⟩
    · exact ⟨hph.2, .inr (List.mem_cons_self ..)⟩
    · exact ⟨(h.ids q x hq).1, (h.ids q x hq).2.imp id fun hh => List.mem_cons_of_mem _ hh⟩
  · rcases getu q x hq with ⟨rfl, rfl⟩ | ⟨_, hq⟩
    · rw [hph.1, hp] at ha; exact ⟨j, oi, List.mem_cons_self .., hg, hm, ha⟩
    · obtain ⟨i, o', y1, y2⟩ := h.muts q x hq hx ad ha
      exact ⟨i, o', List.mem_cons_of_mem _ y1, y2⟩
  · rcases getu q x hq with ⟨rfl, rfl⟩ | ⟨_, hq⟩
    · exact ho N' hs hfz
    · exact h.rep q x hq N' hs hfz
  · rcases getu q x hq with ⟨rfl, rfl⟩ | ⟨hn1, h1⟩ <;> rcases getu q' x' hq' with ⟨rfl, rfl⟩ | ⟨hn2, h2⟩
    · exact absurd rfl hne
    · rw [hph.1, hp] at ha
      exact (cross q' x' ad' ad h2 hx' ha' ha).symm
    · rw [hph.1, hp] at ha'
      exact cross q x ad ad' h1 hx ha ha'
    · exact h.inj q q' x x' ad ad' hne h1 h2 hx hx' ha ha'
end
end Go.Sat
end
section
namespace Go.Sat
open Go

/-- a place of a state: a slot of the frame, or an object under a name of its own (m tells its name where it is laid) -/
inductive Item
  | slot (t : Tmp) (p : Pat) | agg (t : Tmp) (p : Pat) | blk (j : Nat) (T : TypeId) (p : Pat) | row (j : Nat) (t : Ty) (e : TypeId) | rdn (j : Nat) (q : Jump) | rowf (j : Nat) (t : Ty) (e : TypeId)
@[reducible] def Item.den : Item → Type
  | .slot _ p => p.den
  | .agg _ p => p.den
  | .blk _ _ p => p.den
  | .row _ t _ => List t.den
  | .rdn _ _ => Unit
  | .rowf _ t _ => List t.den
def Item.fix : Item → List Nat
  | .blk j _ _ => [j]
  | .row j _ _ => [j]
  | .rdn j _ => [j]
  | .rowf j _ _ => [j]
  | _ => []
/-- the object is the one that bears the other name -/
def Item.same (m : Nat → Nat) (A0 : Nat → Prop) (φ0 φ : Ph) : Item → Prop
  | .blk j _ _ => A0 (m j) ∧ (φ0 (m j)).addr = (φ j).addr
  | .row j _ _ => A0 (m j) ∧ φ0 (m j) = φ j
  | .rdn j _ => A0 (m j) ∧ (φ0 (m j)).addr = (φ j).addr
  | .rowf j _ _ => A0 (m j) ∧ φ0 (m j) = φ j
  | _ => True
@[reducible] def St : List Item → Type
  | [] => Unit
  | [i] => i.den
  | i :: j :: r => i.den × St (j :: r)
def fixL : List Item → List Nat
  | [] => []
  | i :: r => i.fix ++ fixL r
structure DcI (α : Type) where
  x : α
  cm : List Nat
  cf : List Nat
def whole {α : Type} : Option (Dec α) → Option (DcI α)
  | some ⟨x, [], cm, cf⟩ => some ⟨x, cm, cf⟩
  | _ => none
theorem whole_spec {α : Type} {o : Option (Dec α)} {d : DcI α} (h : whole o = some d) : o = some ⟨d.x, [], d.cm, d.cf⟩ := by
  unfold whole at h
  split at h
  · cases h; rfl
  · cases h
def undefS : SV → Bool | .b .undef => true | _ => false
def decI (E : VEnv) (H : Hp) : (i : Item) → Option (DcI i.den)
  | .slot t p => match E.get t with
    | some (.a (.one s)) => bif undefS s then none else whole (decS H p [.one s])
    | _ => none
  | .agg t p => match E.get t with
    | some (.a (.agg l)) => whole (decS H p l)
    | _ => none
  | .blk j T p => match H.get j with
    | some (.blk T' l) => bif Nat.beq T' T then (match whole (decS H p l) with | some ⟨x, cm, cf⟩ => some ⟨x, j :: cm, cf⟩ | none => none) else none
    | _ => none
  | .row j t e => match H.get j with
    | some (.own t' e' xs _) => if h : t' = t then (bif Nat.beq e' e then some ⟨castL h xs, [j], []⟩ else none) else none
    | _ => none
  | .rdn j q => match H.get j with
    | some (.rdn q') => if q' = q then some ⟨(), [j], []⟩ else none
    | _ => none
  | .rowf j t e => match H.get j with
    | some (.own t' e' xs true) => if h : t' = t then (bif Nat.beq e' e then some ⟨castL h xs, [j], []⟩ else none) else none
    | _ => none
def slotOf (t : Tmp) : List Seg → List (Nat × VV)
  | [.one s] => [(t, .a (.one s))]
  | _ => []
def instI (m : Nat → Nat) : (i : Item) → i.den → Nat → List (Nat × VV) × Hp × Nat
  | .slot t p, x, nx => match instS p x nx with | (l, u, n) => (slotOf t l, u, n)
  | .agg t p, x, nx => match instS p x nx with | (l, u, n) => ([(t, .a (.agg l))], u, n)
  | .blk j T p, x, nx => match instS p x nx with | (l, u, n) => ([], (m j, .blk T l) :: u, n)
  | .row j t e, x, nx => ([], [(m j, .own t e x false)], nx)
  | .rdn j q, _, nx => ([], [(m j, .rdn q)], nx)
  | .rowf j t e, x, nx => ([], [(m j, .own t e x true)], nx)
def decL (E : VEnv) (H : Hp) : (l : List Item) → Option (DcI (St l))
  | [] => some ⟨(), [], []⟩
  | [i] => decI E H i
  | i :: j :: r => match decI E H i with
    | some ⟨x, cm, cf⟩ => (match decL E H (j :: r) with | some ⟨y, cm', cf'⟩ => some ⟨(x, y), cm ++ cm', cf ++ cf'⟩ | none => none)
    | none => none
def instL (m : Nat → Nat) : (l : List Item) → St l → Nat → List (Nat × VV) × Hp × Nat
  | [], _, nx => ([], [], nx)
  | [i], x, nx => instI m i x nx
  | i :: j :: r, x, nx => match instI m i x.1 nx with | (e1, u1, n1) => match instL m (j :: r) x.2 n1 with | (e2, u2, n2) => (e1 ++ e2, u1 ++ u2, n2)

section
variable {A : Nat → Prop} {φ : Ph} {H : Hp} {w : World} {E : VEnv} {val : Nat → Value} {m : Nat → Nat}
theorem instI_spec (hH : RepH A φ H w) (hE : ∀ t x, E.get t = some x → RelV φ A x (val t)) {i : Item} {d : DcI i.den} {lo : Nat} {A0 : Nat → Prop} {φ0 : Ph} (hd : decI E H i = some d) (hnd : d.cm.Nodup) (hf : Fresh A0 lo (instI m i d.x lo).2.2)
    (hfx : i.same m A0 φ0 φ) :
    ∃ A' φ', Laid A φ H w A0 φ0 lo (instI m i d.x lo).2.2 (instI m i d.x lo).2.1 d.cm d.cf (i.fix.map m) A' φ' ∧ ∀ t x, (t, x) ∈ (instI m i d.x lo).1 → RelV φ' A' x (val t) := by
  cases i with
  | slot t p =>
    simp only [decI] at hd
    split at hd
    · rename_i s hs
      cases hu : undefS s with
      | true => rw [hu] at hd; cases hd
      | false =>
        rw [hu] at hd
        have h1 := whole_spec hd
        have hr : RelS φ A s (val t) := hE t _ hs
        have ho : one' (val t) = true := hr.one fun e => by subst e; cases hu
        obtain ⟨c1, c2, A', φ', e, g1, g2, g3⟩ := decS_laid hH (φ0 := φ0) h1 (show RelG φ A [.one s] [val t] from ⟨_, [], rfl, hr, ho, rfl⟩) hnd hf
        have : c2 = [] := g1
        subst this
        rw [List.append_nil] at e
        subst e
        refine ⟨A', φ', g3, fun t' x hx => ?_⟩
        have hx' : (t', x) ∈ slotOf t (instS p d.x lo).1 := hx
        unfold slotOf at hx'
        split at hx'
        · rename_i s' hs'
          rw [hs'] at g2
          obtain ⟨c, cs', e, k1, _, _⟩ := g2
          simp only [List.mem_singleton, Prod.mk.injEq] at hx'
          obtain ⟨rfl, rfl⟩ := hx'
          rw [(List.cons.inj e).1]; exact k1
        · cases hx'
    · cases hd
  | agg t p =>
    simp only [decI] at hd
    split at hd
    · rename_i l hs
      have h1 := whole_spec hd
      obtain ⟨cs, hv, hr⟩ : ∃ cs : List Value, val t = .agg cs.toArray ∧ RelG φ A l cs := hE t _ hs
      obtain ⟨c1, c2, A', φ', e, g1, g2, g3⟩ := decS_laid hH (φ0 := φ0) h1 hr hnd hf
      have : c2 = [] := g1
      subst this
      rw [List.append_nil] at e
      subst e
      refine ⟨A', φ', g3, fun t' x hx => ?_⟩
      have hx' : (t', x) ∈ [(t, VV.a (.agg (instS p d.x lo).1))] := hx
      simp only [List.mem_singleton, Prod.mk.injEq] at hx'
      obtain ⟨rfl, rfl⟩ := hx'
      exact ⟨cs, hv, g2⟩
    · cases hd
  | blk j T p =>
    simp only [decI] at hd
    split at hd
    · rename_i T' l hg
      cases hT : Nat.beq T' T with
      | false => rw [hT] at hd; cases hd
      | true =>
        rw [hT] at hd
        have hT := Nat.eq_of_beq_eq_true hT
        subst hT
        simp only [cond_true] at hd
        split at hd
        · rename_i x cm cf hw
          cases hd
          have h1 := whole_spec hw
          obtain ⟨g, bs, e2, hB, hGb⟩ := hH.obj j _ hg
          obtain ⟨hA0, hp0⟩ := hfx
          obtain ⟨c1, c2, A', φ', e, g1, g2, g3⟩ := decS_laid hH (A0 := A0) (φ0 := φ0) h1 hGb (List.nodup_cons.1 hnd).2 hf
          have : c2 = [] := g1
          subst this
          rw [List.append_nil] at e
          subst e
          refine ⟨A', φ', g3.fix hH hA0 hp0 hg rfl (List.nodup_cons.1 hnd).1 fun N' hs hfz => ?_, fun t' x hx => (by cases hx)⟩
          rw [(g3.agree (m j) hA0).1]
          exact ⟨g, bs, hp0.trans e2, hB, g2⟩
        · cases hd
    · cases hd
  | row j t e =>
    simp only [decI] at hd
    split at hd
    · rename_i t' e' xs f hg
      split at hd
      · rename_i ht
        subst ht
        cases he : Nat.beq e' e with
        | false => rw [he] at hd; cases hd
        | true =>
          rw [he] at hd; cases hd
          have he := Nat.eq_of_beq_eq_true he
          subst he
          obtain ⟨hA0, hp0⟩ := hfx
          have hob := hH.obj j _ hg
          refine ⟨A0, φ0, (Laid.nil (cf := [])).fix hH hA0 (congrArg Bs.addr hp0) hg rfl (by simp) fun N' hs _ => ?_, fun t' x hx => (by cases hx)⟩
          rw [hp0]
          obtain ⟨css, q1, q2, q3, q4, q5, q6⟩ := hob
          exact ⟨css, q1.mono fun _ _ => RepD.sub hs, q2, q3, fun e => (by cases e), q5, q6⟩
      · cases hd
    · cases hd
  | rowf j t e =>
    simp only [decI] at hd
    split at hd
    · rename_i t' e' xs hg
      split at hd
      · rename_i ht
        subst ht
        cases he : Nat.beq e' e with
        | false => rw [he] at hd; cases hd
        | true =>
          rw [he] at hd; cases hd
          have he := Nat.eq_of_beq_eq_true he
          subst he
          obtain ⟨hA0, hp0⟩ := hfx
          have hob := hH.obj j _ hg
          refine ⟨A0, φ0, (Laid.nil (cf := [])).fix hH hA0 (congrArg Bs.addr hp0) hg rfl (by simp) fun N' hs _ => ?_, fun t' x hx => (by cases hx)⟩
          rw [hp0]
          obtain ⟨css, q1, q2, q3, q4, q5, q6⟩ := hob
          exact ⟨css, q1.mono fun _ _ => RepD.sub hs, q2, q3, q4, q5, q6⟩
      · cases hd
    · cases hd
  | rdn j q =>
    simp only [decI] at hd
    split at hd
    · rename_i q' hg
      split at hd
      · rename_i hq
        subst hq
        cases hd
        obtain ⟨hA0, hp0⟩ := hfx
        obtain ⟨g, r, q1, q2⟩ := hH.obj j _ hg
        exact ⟨A0, φ0, (Laid.nil (cf := [])).fix hH hA0 hp0 hg rfl (by simp) fun N' hs _ => ⟨g, r, hp0.trans q1, q2⟩, fun t' x hx => (by cases hx)⟩
      · cases hd
    · cases hd
theorem instL_spec (hH : RepH A φ H w) (hE : ∀ t x, E.get t = some x → RelV φ A x (val t)) : ∀ {l : List Item} {d : DcI (St l)} {lo : Nat} {A0 : Nat → Prop} {φ0 : Ph}, decL E H l = some d → d.cm.Nodup → Fresh A0 lo (instL m l d.x lo).2.2 →
    (∀ i ∈ l, i.same m A0 φ0 φ) →
    ∃ A' φ', Laid A φ H w A0 φ0 lo (instL m l d.x lo).2.2 (instL m l d.x lo).2.1 d.cm d.cf ((fixL l).map m) A' φ' ∧ ∀ t x, (t, x) ∈ (instL m l d.x lo).1 → RelV φ' A' x (val t) := by
  intro l
  induction l with
  | nil =>
    intro d lo A0 φ0 hd hnd hf hfx
    cases hd
    exact ⟨A0, φ0, .nil, fun t x hx => (by cases hx)⟩
  | cons i r ih =>
    intro d lo A0 φ0 hd hnd hf hfx
    cases r with
    | nil =>
      obtain ⟨A', φ', h1, h2⟩ := instI_spec hH hE (i := i) hd hnd hf (hfx i (List.mem_cons_self ..))
      exact ⟨A', φ', by rw [show fixL [i] = i.fix from List.append_nil _]; exact h1, h2⟩
    | cons k r =>
      unfold decL at hd
      split at hd
      · rename_i x cm cf hd1
        split at hd
        · rename_i y cm' cf' hd2
          cases hd
          obtain ⟨e1, u1, n1, q1⟩ : ∃ e1 u1 n1, instI m i x lo = (e1, u1, n1) := ⟨_, _, _, rfl⟩
          obtain ⟨e2, u2, n2, q2⟩ : ∃ e2 u2 n2, instL m (k :: r) y n1 = (e2, u2, n2) := ⟨_, _, _, rfl⟩
          have einst : instL m (i :: k :: r) (x, y) lo = (e1 ++ e2, u1 ++ u2, n2) := by simp only [instL, q1, q2]
          simp only [einst] at hf ⊢
          have hnds := List.nodup_append.1 hnd
          have hle : n1 ≤ n2 := by
            have mono : ∀ (p : Pat) (x : p.den) (n : Nat), n ≤ (instS p x n).2.2 := by
              intro p
              induction p with
              | ty t => intro x n; exact openT_le t x n
              | own t e => intro x n; exact Nat.le_succ _
              | wnd t e f => intro x n; exact Nat.le_succ _
              | ptr T p ih => intro x n; exact Nat.le_trans (Nat.le_succ _) (ih x (n + 1))
              | pr a b iha ihb => intro x n; exact Nat.le_trans (iha x.1 n) (ihb x.2 _)
              | unit => intro x n; exact Nat.le_refl _
              | nils => intro x n; exact Nat.le_refl _
              | fn g a b iha ihb => intro x n; exact Nat.le_trans (iha x.1 n) (ihb x.2 _)
            have monoI : ∀ (i : Item) (x : i.den) (n : Nat), n ≤ (instI m i x n).2.2 := by
              intro i x n
              cases i with
              | slot t p => exact mono p x n
              | agg t p => exact mono p x n
              | blk j T p => exact mono p x n
              | row j t e => exact Nat.le_refl _
              | rdn j q => exact Nat.le_refl _
              | rowf j t e => exact Nat.le_refl _
            have monoL : ∀ (l : List Item) (x : St l) (n : Nat), n ≤ (instL m l x n).2.2 := by
              intro l
              induction l with
              | nil => intro x n; exact Nat.le_refl _
              | cons i r ih =>
                intro x n
                cases r with
                | nil => exact monoI i x n
                | cons j r => exact Nat.le_trans (monoI i x.1 n) (ih x.2 _)
            have := monoL (k :: r) y n1; rw [q2] at this; exact this
          obtain ⟨A1, φ1, h1, h2⟩ := instI_spec hH hE (i := i) (lo := lo) (φ0 := φ0) hd1 hnds.1 (by rw [q1]; exact hf.before hle) (hfx i (List.mem_cons_self ..))
          simp only [q1] at h1 h2
          have hf1 : Fresh A1 n1 n2 := hf.after h1.only h1.le
          obtain ⟨A2, φ2, g1, g2⟩ := ih (d := ⟨y, cm', cf'⟩) (lo := n1) (φ0 := φ1) hd2 hnds.2.1 (by simp only [q2]; exact hf1) fun q hq => by
            have hs := hfx q (List.mem_cons_of_mem _ hq)
            cases q with
            | blk j T p => exact ⟨(h1.agree _ hs.1).2, (congrArg Bs.addr (h1.agree _ hs.1).1).trans hs.2⟩
            | row j t e => exact ⟨(h1.agree _ hs.1).2, (h1.agree _ hs.1).1.trans hs.2⟩
            | rdn j q => exact ⟨(h1.agree _ hs.1).2, (congrArg Bs.addr (h1.agree _ hs.1).1).trans hs.2⟩
            | rowf j t e => exact ⟨(h1.agree _ hs.1).2, (h1.agree _ hs.1).1.trans hs.2⟩
            | _ => trivial
          simp only [q2] at g1 g2
          refine ⟨A2, φ2, ?_, fun t x hx => ?_⟩
          · have := h1.app hH hnd g1
            rw [show fixL (i :: k :: r) = i.fix ++ fixL (k :: r) from rfl, List.map_append]
            exact this
          · rcases List.mem_append.1 hx with hx | hx
            · exact (h2 t x hx).up g1.agree
            · exact g2 t x hx
        · cases hd
      · cases hd

/-- Objects laid anew upon a heap of others. -/
theorem relay {A0 : Nat → Prop} {φ0 : Ph} {lo hi : Nat} {u B : Hp} {cm cf fx : List Nat} {A' : Nat → Prop} {φ' : Ph} (h : Laid A φ H w A0 φ0 lo hi u cm cf fx A' φ') (M : Nat → Prop)
    (hdom : ∀ j o, B.get j = some o → A0 j)
    (hrep : ∀ N' : Nat → Prop, (∀ k, N' k → M k ∨ ∃ i oi ad, i ∈ cm ∧ H.get i = some oi ∧ oi.mut = true ∧ (φ i).addr = some ad ∧ ad.block = k) → ∀ j o, u.get j = some o → RepO φ' A' N' w (φ' j) o)
    (hmut : ∀ j o ad, u.get j = none → B.get j = some o → o.mut = true → (φ0 j).addr = some ad → M ad.block)
    (hcm : ∀ i ∈ cm, ∀ oi, H.get i = some oi → oi.mut = true → ∀ ad, (φ i).addr = some ad → ¬ M ad.block)
    (hsep : ∀ j j' o o' ad ad', j ≠ j' → u.get j = none → u.get j' = none → B.get j = some o → B.get j' = some o' → o.mut = true → o'.mut = true → (φ0 j).addr = some ad → (φ0 j').addr = some ad' → ad.block ≠ ad'.block)
    (hobj : ∀ N' : Nat → Prop, (∀ k, N' k → M k ∨ ∃ i oi ad, i ∈ cm ∧ H.get i = some oi ∧ oi.mut = true ∧ (φ i).addr = some ad ∧ ad.block = k) → ∀ j o, u.get j = none → B.get j = some o → RepO φ0 A0 N' w (φ0 j) o) :
    RepH A' φ' (u ++ B) w ∧ ∀ k, MB φ' (u ++ B) k → M k ∨ ∃ i oi ad, i ∈ cm ∧ H.get i = some oi ∧ oi.mut = true ∧ (φ i).addr = some ad ∧ ad.block = k := by
  have get : ∀ j o, Hp.get (u ++ B) j = some o → u.get j = some o ∨ (u.get j = none ∧ B.get j = some o) := by
    intro j o hj
    rw [Hp.get_app] at hj
    cases hu : u.get j with
    | none => rw [hu] at hj; exact .inr ⟨rfl, hj⟩
    | some x => rw [hu] at hj; exact .inl hj
  have phi : ∀ j o, B.get j = some o → φ' j = φ0 j ∧ A' j := fun j o hj => h.agree j (hdom j o hj)
  have hmb : ∀ k, MB φ' (u ++ B) k → M k ∨ ∃ i oi ad, i ∈ cm ∧ H.get i = some oi ∧ oi.mut = true ∧ (φ i).addr = some ad ∧ ad.block = k := by
    rintro k ⟨j, o, ad, h1, h2, h3, h4⟩
    rcases get j o h1 with hu | ⟨hn, hB⟩
    · obtain ⟨i, oi, y1, y2, y3, y4⟩ := h.muts j o hu h2 ad h3
      exact .inr ⟨i, oi, ad, y1, y2, y3, y4, h4⟩
    · rw [(phi j o hB).1] at h3
      exact .inl (h4 ▸ hmut j o ad hn hB h2 h3)
  refine ⟨⟨fun j o hj => ?_, fun j o hj => ?_, fun j j' o o' ad ad' hne hj hj' hm hm' ha ha' => ?_⟩, hmb⟩
  · rcases get j o hj with hu | ⟨_, hB⟩
    · exact (h.ids j o hu).1
    · exact (phi j o hB).2
  · rcases get j o hj with hu | ⟨hn, hB⟩
    · exact hrep _ hmb j o hu
    · rw [(phi j o hB).1]
      exact (hobj _ hmb j o hn hB).kept h.agree (Kept.refl _ _) fun _ _ _ => rfl
  · have cross : ∀ j j' o o' ad ad', u.get j = some o → u.get j' = none → B.get j' = some o' → o.mut = true → o'.mut = true → (φ' j).addr = some ad → (φ' j').addr = some ad' → ad.block ≠ ad'.block := by
      intro j j' o o' ad ad' hj hn hj' hm hm' ha ha' e
      rw [(phi j' o' hj').1] at ha'
      obtain ⟨i, oi, y1, y2, y3, y4⟩ := h.muts j o hj hm ad ha
      exact hcm i y1 oi y2 y3 ad y4 (e ▸ hmut j' o' ad' hn hj' hm' ha')
    rcases get j o hj with hu | ⟨hn, hB⟩ <;> rcases get j' o' hj' with hu' | ⟨hn', hB'⟩
    · exact h.inj j j' o o' ad ad' hne hu hu' hm hm' ha ha'
    · exact cross j j' o o' ad ad' hu hn' hB' hm hm' ha ha'
    · exact (cross j' j o' o ad' ad hu' hn hB hm' hm ha' ha).symm
    · rw [(phi j o hB).1] at ha; rw [(phi j' o' hB').1] at ha'
      exact hsep j j' o o' ad ad' hne hn hn' hB hB' hm hm' ha ha'
end
end Go.Sat
end
section
namespace Go.Sat
open Go

/-! ### what is read off a heap is read off a larger one -/
section
variable {H H1 : Hp}
theorem rowAll_sub (hs : Sub H H1) {j : Nat} {t : Ty} {l : List t.den} (h : rowAll H j t = some l) : rowAll H1 j t = some l := by
  unfold rowAll at h ⊢
  cases hg : H.get j with
  | none => rw [hg] at h; cases h
  | some o => rw [hg] at h; rw [hs j o hg]; exact h
theorem rowPart_sub (hs : Sub H H1) {j fo i sz len : Nat} {top : Option Nat} {t : Ty} {l : List t.den} (h : rowPart H j fo i sz len top t = some l) : rowPart H1 j fo i sz len top t = some l := by
  unfold rowPart at h ⊢
  cases top with
  | none =>
    simp only at h ⊢
    cases hb : Nat.beq fo 0 && Nat.beq sz t.size with
    | false => rw [hb] at h; cases h
    | true =>
      rw [hb] at h
      simp only [cond_true] at h ⊢
      cases hr : rowAll H j t with
      | none => rw [hr] at h; cases h
      | some l' => rw [hr] at h; rw [rowAll_sub hs hr]; exact h
  | some n =>
    cases t with
    | int k =>
      simp only at h ⊢
      cases hg : H.get j with
      | none => rw [hg] at h; cases h
      | some o => rw [hg] at h; rw [hs j o hg]; exact h
    | _ => cases h
theorem slCont_sub (hs : Sub H H1) {t : Ty} {v : BV} {l : List t.den} (h : slCont H t v = some l) : slCont H1 t v = some l := by
  cases v with
  | nilsl => exact h
  | row j => exact rowAll_sub hs h
  | sl j fo i sz len top => exact rowPart_sub hs h
  | _ => cases h
theorem closeT_sub (hs : Sub H H1) : ∀ {t : Ty} {l : List Seg} {r : t.den × List Seg}, closeT H t l = some r → closeT H1 t l = some r := by
  intro t
  induction t with
  | pr a b iha ihb =>
    intro l r h
    unfold closeT at h ⊢
    cases h1 : closeT H a l with
    | none => rw [h1] at h; cases h
    | some x =>
      obtain ⟨x, l'⟩ := x
      rw [h1] at h
      rw [iha h1]
      simp only at h ⊢
      cases h2 : closeT H b l' with
      | none => rw [h2] at h; cases h
      | some y => rw [h2] at h; rw [ihb h2]; exact h
  | sl t ih =>
    intro l r h
    unfold closeT at h ⊢
    split at h
    · rename_i v r'
      cases h1 : slCont H t v with
      | none => rw [h1] at h; cases h
      | some x => rw [h1] at h; rw [slCont_sub hs h1]; exact h
    · cases h
  | _ => intro l r h; exact h
theorem mutOf_sub (hs : Sub H H1) : ∀ {ids : List Nat}, rdOk H ids = true → mutOf H1 ids = mutOf H ids ∧ noBlk H1 ids = noBlk H ids ∧ rdOk H1 ids = true := by
  intro ids
  induction ids with
  | nil => intro _; exact ⟨rfl, rfl, rfl⟩
  | cons i ids ih =>
    intro h
    simp only [rdOk, List.all_cons, Bool.and_eq_true] at h
    obtain ⟨a, b, c⟩ := ih h.2
    have e : H1.get i = H.get i := by
      cases hg : H.get i with
      | none => rw [hg] at h; cases h.1
      | some o => exact hs i o hg
    refine ⟨?_, ?_, ?_⟩
    · unfold mutOf at a ⊢; simp only [List.filter_cons, e, a]
    · unfold noBlk at b ⊢; simp only [List.all_cons, e, b]
    · unfold rdOk at c ⊢; simp only [List.all_cons, e, c, h.1, Bool.and_self]
theorem decS_sub (hs : Sub H H1) : ∀ {p : Pat} {l : List Seg} {d : Dec p.den}, decS H p l = some d → decS H1 p l = some d := by
  intro p
  induction p with
  | ty t =>
    intro l d h
    unfold decS at h ⊢
    split at h
    · rename_i x hx
      rw [closeT_sub hs hx]
      simp only
      cases hb : rdOk H (segIds (l.take t.nseg)) with
      | false => rw [hb] at h; cases h
      | true =>
        rw [hb] at h
        obtain ⟨e1, e2, e3⟩ := mutOf_sub hs hb
        rw [e1, e3]; exact h
    · cases h
  | own t e =>
    intro l d h
    unfold decS at h ⊢
    split at h
    · exact h
    · rename_i j r
      split at h
      · rename_i t' e' xs f hg
        rw [hs j _ hg]; exact h
      · cases h
    · rename_i j sz len r
      split at h
      · rename_i t' e' xs f hg
        rw [hs j _ hg]; exact h
      · cases h
    · cases h
  | wnd t e f =>
    intro l d h
    unfold decS at h ⊢
    split at h
    · exact h
    · rename_i j r
      split at h
      · rename_i t' e' xs f' hg
        rw [hs j _ hg]; exact h
      · cases h
    · rename_i j i sz len r
      split at h
      · rename_i t' e' xs f' hg
        rw [hs j _ hg]; exact h
      · cases h
    · cases h
  | ptr T p ih =>
    intro l d h
    unfold decS at h ⊢
    split at h
    · rename_i j r
      split at h
      · rename_i T' segs hg
        rw [hs j _ hg]
        simp only
        cases hT : Nat.beq T' T with
        | false => rw [hT] at h; cases h
        | true =>
          rw [hT] at h
          simp only [cond_true] at h ⊢
          split at h
          · rename_i x cm cf hd
            rw [ih hd]; exact h
          · cases h
      · cases h
    · cases h
  | pr a b iha ihb =>
    intro l d h
    unfold decS at h ⊢
    split at h
    · rename_i x r cm cf hd1
      rw [iha hd1]
      simp only
      split at h
      · rename_i y r' cm' cf' hd2
        rw [ihb hd2]; exact h
      · cases h
    · cases h
  | unit => intro l d h; exact h
  | nils => intro l d h; exact h
  | fn g p q ihp ihq =>
    intro l d h
    unfold decS at h ⊢
    split at h
    · rename_i g' fs ws r
      cases hb : Nat.beq g' g && (noUndef fs && noUndef ws) with
      | false => rw [hb] at h; cases h
      | true =>
        rw [hb] at h
        simp only [cond_true] at h ⊢
        split at h
        · rename_i x cm cf hd1
          rw [ihp hd1]
          simp only
          split at h
          · rename_i y cm' cf' hd2
            rw [ihq hd2]; exact h
          · cases h
        · cases h
    · cases h
theorem whole_sub (hs : Sub H H1) {p : Pat} {l : List Seg} {d : DcI p.den} (h : whole (decS H p l) = some d) : whole (decS H1 p l) = some d := by
  have h1 := whole_spec h
  rw [decS_sub hs h1]; rfl
theorem decI_sub (hs : Sub H H1) {E : VEnv} {i : Item} {d : DcI i.den} (h : decI E H i = some d) : decI E H1 i = some d := by
  cases i with
  | slot t p =>
    simp only [decI] at h ⊢
    split at h
    · rename_i s hg
      cases hu : undefS s with
      | true => rw [hu] at h; cases h
      | false => rw [hu] at h; simp only [cond_false]; exact whole_sub hs h
    · cases h
  | agg t p =>
    simp only [decI] at h ⊢
    split at h
    · rename_i l hg
      exact whole_sub hs h
    · cases h
  | blk j T p =>
    simp only [decI] at h ⊢
    split at h
    · rename_i T' l hg
      rw [hs j _ hg]
      simp only
      cases hT : Nat.beq T' T with
      | false => rw [hT] at h; cases h
      | true =>
        rw [hT] at h
        simp only [cond_true] at h ⊢
        split at h
        · rename_i x cm cf hw
          rw [whole_sub hs hw]; exact h
        · cases h
    · cases h
  | row j t e =>
    simp only [decI] at h ⊢
    split at h
    · rename_i t' e' xs f hg
      rw [hs j _ hg]; exact h
    · cases h
  | rowf j t e =>
    simp only [decI] at h ⊢
    split at h
    · rename_i t' e' xs hg
      rw [hs j _ hg]; exact h
    · cases h
  | rdn j q =>
    simp only [decI] at h ⊢
    split at h
    · rename_i q' hg
      rw [hs j _ hg]; exact h
    · cases h
theorem decL_sub (hs : Sub H H1) {E : VEnv} : ∀ {l : List Item} {d : DcI (St l)}, decL E H l = some d → decL E H1 l = some d := by
  intro l
  induction l with
  | nil => intro d h; exact h
  | cons i r ih =>
    intro d h
    cases r with
    | nil => exact decI_sub hs h
    | cons k r =>
      unfold decL at h ⊢
      split at h
      · rename_i x cm cf hd1
        rw [decI_sub hs hd1]
        simp only
        split at h
        · rename_i y cm' cf' hd2
          rw [ih hd2]; exact h
        · cases h
      · cases h
end

/-! ### names taken back -/
section
variable {A A' : Nat → Prop} {φ φ' : Ph}
theorem RelB.down (ha : Agree φ φ' A A') {x : BV} {v v0 : Value} (h : RelB φ' A' x v) (h0 : RelB φ A x v0) : RelB φ A x v := by
  cases x with
  | row j => obtain ⟨h1, _⟩ := h0; obtain ⟨_, h2⟩ := h; rw [(ha j h1).1] at h2; exact ⟨h1, h2⟩
  | sl j fo i sz len top => obtain ⟨h1, _⟩ := h0; obtain ⟨_, h2⟩ := h; rw [(ha j h1).1] at h2; exact ⟨h1, h2⟩
  | ptr j fo i sz => obtain ⟨h1, _⟩ := h0; obtain ⟨_, h2⟩ := h; rw [(ha j h1).1] at h2; exact ⟨h1, h2⟩
  | map j => obtain ⟨h1, _⟩ := h0; obtain ⟨_, h2⟩ := h; rw [(ha j h1).1] at h2; exact ⟨h1, h2⟩
  | _ => exact h
theorem All2.down {α : Type} {R R' : α → Value → Prop} (hd : ∀ x v v0, R' x v → R x v0 → R x v) : ∀ {l : List α} {vs us : List Value}, All2 R' l vs → All2 R l us → All2 R l vs := by
  intro l
  induction l with
  | nil => intro vs us h _; cases vs with
    | nil => trivial
    | cons _ _ => exact h.elim
  | cons x l ih =>
    intro vs us h k
    cases vs with
    | nil => exact h.elim
    | cons v vs =>
      cases us with
      | nil => exact k.elim
      | cons u us => exact ⟨hd _ _ _ h.1 k.1, ih h.2 k.2⟩
theorem RelS.down (ha : Agree φ φ' A A') {x : SV} {v v0 : Value} (h : RelS φ' A' x v) (h0 : RelS φ A x v0) : RelS φ A x v := by
  cases x with
  | b x => exact RelB.down ha h h0
  | yld j =>
    obtain ⟨_, g, e, rfl⟩ := h
    obtain ⟨hj, _⟩ := h0
    exact ⟨hj, g, by rw [← (ha j hj).1]; exact e, rfl⟩
  | fn f fs cs =>
    obtain ⟨vs, us, rfl, h1, h2⟩ := h
    obtain ⟨vs0, us0, _, k1, k2⟩ := h0
    exact ⟨vs, us, rfl, All2.down (R := fun x v => RelB φ A x v) (R' := fun x v => RelB φ' A' x v) (fun x v v0 a b => RelB.down ha a b) h1 k1, All2.down (R := fun x v => RelB φ A x v) (R' := fun x v => RelB φ' A' x v) (fun x v v0 a b => RelB.down ha a b) h2 k2⟩
theorem RelG.down (ha : Agree φ φ' A A') : ∀ {l : List Seg} {cs cs0 : List Value}, RelG φ' A' l cs → RelG φ A l cs0 → RelG φ A l cs := by
  intro l
  induction l with
  | nil => intro cs cs0 h _; exact h
  | cons s l ih =>
    intro cs cs0 h h0
    cases s with
    | one s =>
      obtain ⟨c, cs', rfl, h1, h2, h3⟩ := h
      obtain ⟨c0, cs0', rfl, k1, _, k3⟩ := h0
      exact ⟨c, cs', rfl, h1.down ha k1, h2, ih h3 k3⟩
    | arr k n a =>
      obtain ⟨cs', rfl, h3⟩ := h
      obtain ⟨cs0', rfl, k3⟩ := h0
      exact ⟨cs', rfl, ih h3 k3⟩
theorem RelA.down (ha : Agree φ φ' A A') {x : AV} {v v0 : Value} (h : RelA φ' A' x v) (h0 : RelA φ A x v0) : RelA φ A x v := by
  cases x with
  | one s => exact RelS.down ha h h0
  | agg l => obtain ⟨cs, rfl, h1⟩ := h; obtain ⟨cs0, _, k1⟩ := h0; exact ⟨cs, rfl, h1.down ha k1⟩
theorem RelV.down (ha : Agree φ φ' A A') {x : VV} {v v0 : Value} (h : RelV φ' A' x v) (h0 : RelV φ A x v0) : RelV φ A x v := by
  cases x with
  | a x => exact RelA.down ha h h0
  | tup l => obtain ⟨vs, rfl, h1⟩ := h; obtain ⟨vs0, _, k1⟩ := h0; exact ⟨vs, rfl, All2.down (R := fun x v => RelA φ A x v) (R' := fun x v => RelA φ' A' x v) (fun x v v0 a b => RelA.down ha a b) h1 k1⟩
theorem RepO.down (ha : Agree φ φ' A A') {N N0 : Nat → Prop} {w w0 : World} {b : Bs} {o : Obj} (h : RepO φ' A' N w b o) (h0 : RepO φ A N0 w0 b o) : RepO φ A N w b o := by
  cases o with
  | blk T l =>
    obtain ⟨g, cs, e, hB, hG⟩ := h
    obtain ⟨g0, cs0, _, _, kG⟩ := h0
    exact ⟨g, cs, e, hB, hG.down ha kG⟩
  | rcd bz R =>
    obtain ⟨g, r, h1, h2, h3, h4, h5, h6, h7, h8, h9⟩ := h
    obtain ⟨_, _, _, _, _, _, _, _, _, _, k9⟩ := h0
    exact ⟨g, r, h1, h2, h3, h4, h5, h6, h7, h8, fun t v ht => let ⟨u, g1, g2⟩ := h9 t v ht; let ⟨_, _, g4⟩ := k9 t v ht; ⟨u, g1, g2.down ha g4⟩⟩
  | fblk T l =>
    obtain ⟨g, cs, e, hB, hG, hn⟩ := h
    obtain ⟨g0, cs0, _, _, kG, _⟩ := h0
    exact ⟨g, cs, e, hB, hG.down ha kG, hn⟩
  | _ => exact h
theorem RepO.subN {N N' : Nat → Prop} {w : World} {b : Bs} {o : Obj} (h : RepO φ A N w b o) (hs : ∀ k, N' k → N k) : RepO φ A N' w b o := by
  cases o with
  | blk T l => exact h
  | own t e l f =>
    obtain ⟨css, q1, q2⟩ := h
    exact ⟨css, q1.mono fun _ _ => RepD.sub hs, q2⟩
  | ro t l =>
    obtain ⟨css, q1, q2, q3, q4, q5, q6⟩ := h
    exact ⟨css, q1.mono fun _ _ => RepD.sub hs, q2, q3, q4, q5, fun ad ha hp => ⟨(q6 ad ha hp).1, fun hn => (q6 ad ha hp).2 (hs _ hn)⟩⟩
  | dead => trivial
  | hid c => exact h
  | rcd bz R => exact h
  | rdn q => exact h
  | fblk T l => obtain ⟨g, cs, h1, h2, h3, h4⟩ := h; exact ⟨g, cs, h1, h2, h3, fun hn => h4 (hs _ hn)⟩
end
end Go.Sat
end
section
namespace Go.Sat
open Go

def deads (D : List Nat) : Hp := D.map fun j => (j, .dead)
theorem deads_get {D : List Nat} {j : Nat} {o : Obj} (h : (deads D).get j = some o) : j ∈ D ∧ o = .dead := by
  induction D with
  | nil => cases h
  | cons d D ih =>
    unfold deads at h ih
    rw [List.map_cons] at h
    by_cases e : d = j
    · subst e; rw [get_self] at h; cases h; exact ⟨List.mem_cons_self .., rfl⟩
    · rw [get_ne _ _ e] at h; exact ⟨List.mem_cons_of_mem _ (ih h).1, (ih h).2⟩
theorem deads_mem {D : List Nat} {j : Nat} (h : j ∈ D) : (deads D).get j = some .dead := by
  cases hg : (deads D).get j with
  | some o => rw [(deads_get hg).2]
  | none =>
    exfalso
    induction D with
    | nil => cases h
    | cons d D ih =>
      unfold deads at hg ih
      rw [List.map_cons] at hg
      by_cases e : d = j
      · subst e; rw [get_self] at hg; cases hg
      · rw [get_ne _ _ e] at hg
        exact ih ((List.mem_cons.1 h).resolve_left (Ne.symm e)) hg
theorem deads_app {D : List Nat} {H : Hp} {j : Nat} {o : Obj} (h : Hp.get (deads D ++ H) j = some o) : (j ∈ D ∧ o = .dead) ∨ (j ∉ D ∧ H.get j = some o) := by
  rw [Hp.get_app] at h
  by_cases hm : j ∈ D
  · rw [deads_mem hm] at h; cases h; exact .inl ⟨hm, rfl⟩
  · cases hg : (deads D).get j with
    | some x => exact absurd (deads_get hg).1 hm
    | none => rw [hg] at h; exact .inr ⟨hm, h⟩
def drops (asg : List Nat) (E : VEnv) : VEnv := E.filter fun p => !asg.contains p.1
theorem drops_get {asg : List Nat} {E : VEnv} {t : Nat} {x : VV} (h : (drops asg E).get t = some x) : t ∉ asg ∧ E.get t = some x := by
  induction E with
  | nil => cases h
  | cons p E ih =>
    obtain ⟨k, v⟩ := p
    unfold drops at h ih
    rw [List.filter_cons] at h
    by_cases e : k = t
    · subst e
      cases hc : asg.contains k with
      | true =>
        rw [if_neg (by rw [show (k, v).1 = k from rfl, hc]; decide)] at h
        exact absurd (List.contains_iff_mem.1 hc) (ih h).1
      | false =>
        rw [if_pos (by rw [show (k, v).1 = k from rfl, hc]; decide)] at h
        simp only [VEnv.get, Nat.beq_refl, cond_true] at h ⊢
        refine ⟨fun hm => ?_, h⟩
        rw [List.contains_iff_mem.2 hm] at hc; cases hc
    · have : VEnv.get ((k, v) :: E) t = VEnv.get E t := by simp only [VEnv.get, nbeq e, cond_false]
      rw [this]
      split at h
      · have h' : VEnv.get ((k, v) :: E.filter fun p => !asg.contains p.1) t = VEnv.get (E.filter fun p => !asg.contains p.1) t := by simp only [VEnv.get, nbeq e, cond_false]
        rw [h'] at h; exact ih h
      · exact ih h
theorem drops_mem {asg : List Nat} {E : VEnv} {t : Nat} (h : t ∉ asg) : (drops asg E).get t = E.get t := by
  induction E with
  | nil => rfl
  | cons p E ih =>
    obtain ⟨k, v⟩ := p
    unfold drops at ih ⊢
    rw [List.filter_cons]
    by_cases e : k = t
    · subst e
      have hc : asg.contains k = false := by
        cases hc : asg.contains k with
        | false => rfl
        | true => exact absurd (List.contains_iff_mem.1 hc) h
      rw [if_pos (by rw [show (k, v).1 = k from rfl, hc]; decide)]
      simp only [VEnv.get, Nat.beq_refl, cond_true]
    · split
      · simp only [VEnv.get, nbeq e, cond_false]; exact ih
      · simp only [VEnv.get, nbeq e, cond_false]; exact ih
def okIds (nx nx1 : Nat) (D fx ks : List Nat) : Bool := ks.all fun k => (Nat.ble nx k && Nat.blt k nx1) || D.contains k || fx.contains k
theorem okIds_spec {nx nx1 : Nat} {D fx ks : List Nat} (h : okIds nx nx1 D fx ks = true) {k : Nat} (hk : k ∈ ks) : (nx ≤ k ∧ k < nx1) ∨ k ∈ D ∨ k ∈ fx := by
  have := List.all_eq_true.1 h k hk
  simp only [Bool.or_eq_true, Bool.and_eq_true, Nat.ble_eq, Nat.blt_eq, List.contains_iff_mem] at this
  rcases this with (h | h) | h
  · exact .inl h
  · exact .inr (.inl h)
  · exact .inr (.inr h)
def nodupB : List Nat → Bool
  | [] => true
  | a :: r => !r.contains a && nodupB r
theorem nodupB_spec : ∀ {l : List Nat}, nodupB l = true → l.Nodup := by
  intro l
  induction l with
  | nil => intro _; exact List.nodup_nil
  | cons a l ih =>
    intro h
    simp only [nodupB, Bool.and_eq_true, Bool.not_eq_true'] at h
    exact List.nodup_cons.2 ⟨fun hm => (by rw [List.contains_iff_mem.2 hm] at h; cases h.1), ih h.2⟩

/-! ### slots of a state -/
def Item.slots : Item → List Nat
  | .slot t _ => [t]
  | .agg t _ => [t]
  | _ => []
def slotsL : List Item → List Nat
  | [] => []
  | i :: r => i.slots ++ slotsL r
theorem slotOf_mem {t t' : Nat} {x : VV} {l : List Seg} (h : (t, x) ∈ slotOf t' l) : t = t' := by
  unfold slotOf at h
  split at h
  · simp only [List.mem_singleton, Prod.mk.injEq] at h; exact h.1
  · cases h
theorem instI_mem {m : Nat → Nat} {i : Item} {d : i.den} {lo t : Nat} {x : VV} (h : (t, x) ∈ (instI m i d lo).1) : t ∈ i.slots := by
  cases i with
  | slot t' p => exact List.mem_singleton.2 (slotOf_mem h)
  | agg t' p =>
    have h' : (t, x) ∈ [(t', VV.a (.agg (instS p d lo).1))] := h
    simp only [List.mem_singleton, Prod.mk.injEq] at h'
    exact List.mem_singleton.2 h'.1
  | blk j T p => cases h
  | row j t e => cases h
  | rdn j q => cases h
  | rowf j t e => cases h
theorem instL_mem {m : Nat → Nat} : ∀ {l : List Item} {d : St l} {lo t : Nat} {x : VV}, (t, x) ∈ (instL m l d lo).1 → t ∈ slotsL l := by
  intro l
  induction l with
  | nil => intro d lo t x h; cases h
  | cons i r ih =>
    intro d lo t x h
    cases r with
    | nil => exact List.mem_append_left _ (instI_mem (i := i) h)
    | cons k r =>
      have h' : (t, x) ∈ (instI m i d.1 lo).1 ++ (instL m (k :: r) d.2 (instI m i d.1 lo).2.2).1 := h
      rcases List.mem_append.1 h' with h' | h'
      · exact List.mem_append_left _ (instI_mem h')
      · exact List.mem_append_right _ (ih h')
theorem instI_fix {m : Nat → Nat} {i : Item} {d : i.den} {lo j : Nat} (h : j ∈ i.fix) : (instI m i d lo).2.1.get (m j) ≠ none := by
  cases i with
  | slot t' p => cases h
  | agg t' p => cases h
  | blk q T p =>
    simp only [Item.fix, List.mem_singleton] at h
    subst h
    have : (instI m (.blk j T p) d lo).2.1 = (m j, .blk T (instS p d lo).1) :: (instS p d lo).2.1 := rfl
    rw [this, get_self]; simp
  | row q t e =>
    simp only [Item.fix, List.mem_singleton] at h
    subst h
    have : (instI m (.row j t e) d lo).2.1 = [(m j, .own t e d false)] := rfl
    rw [this, get_self]; simp
  | rowf q t e =>
    simp only [Item.fix, List.mem_singleton] at h
    subst h
    have : (instI m (.rowf j t e) d lo).2.1 = [(m j, .own t e d true)] := rfl
    rw [this, get_self]; simp
  | rdn q z =>
    simp only [Item.fix, List.mem_singleton] at h
    subst h
    have : (instI m (.rdn j z) d lo).2.1 = [(m j, .rdn z)] := rfl
    rw [this, get_self]; simp
theorem instL_fix {m : Nat → Nat} : ∀ {l : List Item} {d : St l} {lo j : Nat}, j ∈ fixL l → (instL m l d lo).2.1.get (m j) ≠ none := by
  intro l
  induction l with
  | nil => intro d lo j h; cases h
  | cons i r ih =>
    intro d lo j h
    cases r with
    | nil => exact instI_fix (i := i) (by simpa [fixL] using h)
    | cons k r =>
      have e : (instL m (i :: k :: r) d lo).2.1 = (instI m i d.1 lo).2.1 ++ (instL m (k :: r) d.2 (instI m i d.1 lo).2.2).2.1 := rfl
      rw [e, Hp.get_app]
      cases hg : (instI m i d.1 lo).2.1.get (m j) with
      | some o => simp
      | none =>
        rcases List.mem_append.1 h with h | h
        · exact absurd hg (instI_fix h)
        · exact ih h
theorem VEnv.get_app (e E : VEnv) (t : Nat) : VEnv.get (e ++ E) t = (match VEnv.get e t with | some x => some x | none => VEnv.get E t) := by
  induction e with
  | nil => rfl
  | cons p e ih =>
    obtain ⟨k, v⟩ := p
    simp only [List.cons_append, VEnv.get]
    cases Nat.beq k t with
    | true => rfl
    | false => simpa using ih
theorem VEnv.get_mem {e : VEnv} {t : Nat} {x : VV} (h : e.get t = some x) : (t, x) ∈ e := by
  induction e with
  | nil => cases h
  | cons p e ih =>
    obtain ⟨k, v⟩ := p
    by_cases hk : k = t
    · subst hk
      simp only [VEnv.get, Nat.beq_refl, cond_true] at h
      cases h; exact List.mem_cons_self ..
    · simp only [VEnv.get, nbeq hk, cond_false] at h
      exact List.mem_cons_of_mem _ (ih h)
theorem fixL_mem {l : List Item} {i : Item} {j : Nat} (hi : i ∈ l) (hj : j ∈ i.fix) : j ∈ fixL l := by
  induction l with
  | nil => cases hi
  | cons k l ih =>
    rcases List.mem_cons.1 hi with rfl | hi
    · exact List.mem_append_left _ hj
    · exact List.mem_append_right _ (ih hi)
/-- what is asked of a state that is read off -/
structure CutOk (n : Nat) (E0 E1 : VEnv) (H v : Hp) (nx nx1 : Nat) (D : List Nat) (l : List Item) (d : DcI (St l)) : Prop where
  dec : decL E1 (v ++ H) l = some d
  nodup : (d.cm ++ d.cf).Nodup
  ids : okIds nx nx1 D (fixL l) (d.cm ++ d.cf) = true
  keys : okIds nx nx1 D (fixL l) (keysH v) = true
  there : ∀ j, j ∈ D ∨ j ∈ fixL l → (H.get j).isSome = true
  slots : ∀ t ∈ slotsL l, t < n

section
variable {n : Nat} {ds : List Deferred} {A A1 : Nat → Prop} {φ φ1 : Ph} {H H1 v : Hp} {w0 w1 : World} {E E1 : VEnv} {a0 a1 : Act} {nx nx1 M : Nat} {asg D : List Nat} {l : List Item} {d : DcI (St l)}
theorem cut_step {ds0 : List Deferred} (hc : CutOk n E E1 H v nx nx1 D l d) (hsub : Sub H H1) (hH : RepH A φ H1 w0) (hA0 : AtV n ds0 φ A E a0) (hf : Fresh A nx M) (hn1 : nx1 ≤ M) (hhi : (instL id l d.x nx).2.2 ≤ M)
    (hst : Stp A φ H1 w0 A1 φ1 (v ++ H1) w1) (hA1 : AtV n ds φ1 A1 E1 a1) (hkeep : ∀ t, t ∉ asg → E1.get t = E.get t) :
    ∃ A' φ', AtV n ds φ' A' ((instL id l d.x nx).1 ++ drops asg E) a1 ∧ Stp A φ H1 w0 A' φ' ((instL id l d.x nx).2.1 ++ (deads D ++ H1)) w1 ∧ (∀ j, A' j → A j ∨ (nx ≤ j ∧ j < (instL id l d.x nx).2.2)) ∧ ∀ k, MB φ' ((instL id l d.x nx).2.1 ++ (deads D ++ H1)) k → MB φ1 (v ++ H1) k := by
  have hdec := decL_sub (hsub.app v) hc.dec
  have hthere : ∀ j, j ∈ D ∨ j ∈ fixL l → ∃ o, H1.get j = some o ∧ A j := fun j hj => by
    have := hc.there j hj
    cases hg : H.get j with
    | none => rw [hg] at this; cases this
    | some o => exact ⟨o, hsub j o hg, hH.dom j o (hsub j o hg)⟩
  -- what is not touched
  have live : ∀ j o, H1.get j = some o → j ∉ D → j ∉ fixL l → Hp.get (v ++ H1) j = some o := by
    intro j o hj h1 h2
    rw [Hp.get_app]
    have : v.get j = none := get_keys fun hk => by
      rcases okIds_spec hc.keys hk with h | h | h
      · exact hf j h.1 (Nat.lt_of_lt_of_le h.2 hn1) (hH.dom j o hj)
      · exact h1 h
      · exact h2 h
    rw [this]; exact hj
  have apart : ∀ i, i ∈ d.cm ++ d.cf → ∀ j o, H1.get j = some o → j ∉ D → j ∉ fixL l → i ≠ j := by
    intro i hi j o hj h1 h2 e
    subst e
    rcases okIds_spec hc.ids hi with h | h | h
    · exact hf i h.1 (Nat.lt_of_lt_of_le h.2 hn1) (hH.dom i o hj)
    · exact h1 h
    · exact h2 h
  obtain ⟨A', φ', hL, hV⟩ := instL_spec hst.rep (E := E1) (val := fun t => a1.tmps.getD t undef) (fun t x hx => by
      obtain ⟨u, h1, h2⟩ := hA1.slot t x hx
      simp only [Array.getD_eq_getD_getElem?, h1, Option.getD_some]; exact h2) (l := l) (d := d) (lo := nx) (A0 := A) (φ0 := φ) hdec (List.nodup_append.1 hc.nodup).1 (fun j h1 h2 => hf j h1 (Nat.lt_of_lt_of_le h2 hhi)) (m := id) (fun i hi => by
      have hj : ∀ j, j ∈ i.fix → A j ∧ φ j = φ1 j := fun j hj => by
        obtain ⟨o, ho, hA⟩ := hthere j (.inr (fixL_mem hi hj))
        exact ⟨hA, (hst.agree j hA).1.symm⟩
      cases i with
      | blk j T p => obtain ⟨h1, h2⟩ := hj j (List.mem_singleton.2 rfl); exact ⟨h1, congrArg Bs.addr h2⟩
      | row j t e => exact hj j (List.mem_singleton.2 rfl)
      | rdn j q => obtain ⟨h1, h2⟩ := hj j (List.mem_singleton.2 rfl); exact ⟨h1, congrArg Bs.addr h2⟩
      | rowf j t e => exact hj j (List.mem_singleton.2 rfl)
      | _ => trivial)
  have uncov : ∀ j o, (instL id l d.x nx).2.1.get j = none → Hp.get (deads D ++ H1) j = some o → (j ∈ D ∧ o = .dead) ∨ (H1.get j = some o ∧ j ∉ D ∧ j ∉ fixL l) := by
    intro j o hn hj
    rcases deads_app hj with h | ⟨h1, h2⟩
    · exact .inl h
    · refine .inr ⟨h2, h1, fun hm => ?_⟩
      exact instL_fix (m := id) hm hn
  obtain ⟨hrep, hmb⟩ := relay hL (B := deads D ++ H1) (M := fun k => ∃ j o ad, H1.get j = some o ∧ o.mut = true ∧ j ∉ D ∧ j ∉ fixL l ∧ (φ j).addr = some ad ∧ ad.block = k)
    (fun j o hj => by
      rcases deads_app hj with ⟨h, _⟩ | ⟨_, h⟩
      · obtain ⟨_, _, h⟩ := hthere j (.inl h); exact h
      · exact hH.dom j o h)
    (fun N' hN j o hu => hL.rep j o hu N' (fun k hk => by
        rcases hN k hk with ⟨j, o, ad, h1, h2, h3, h4, h5, h6⟩ | ⟨i, oi, ad, _, g2, g3, g4, g5⟩
        · exact ⟨j, o, ad, live j o h1 h3 h4, h2, by rw [(hst.agree j (hH.dom j o h1)).1]; exact h5, h6⟩
        · exact ⟨i, oi, ad, g2, g3, g4, g5⟩) fun i hi oi hg hm ad ha hk => by
        rcases hN _ hk with ⟨j, o, ad', h1, h2, h3, h4, h5, h6⟩ | ⟨i', oi', ad', hi', hg', hm', ha', e'⟩
        · exact hst.rep.sep i j oi o ad ad' (apart i (List.mem_append_right _ hi) j o h1 h3 h4) hg (live j o h1 h3 h4) hm h2 ha (by rw [(hst.agree j (hH.dom j o h1)).1]; exact h5) h6.symm
        · exact hst.rep.sep i' i oi' oi ad' ad ((List.nodup_append.1 hc.nodup).2.2 i' hi' i hi) hg' hg hm' hm ha' ha e')
    (fun j o ad hn hj hm ha => by
      rcases uncov j o hn hj with ⟨_, rfl⟩ | ⟨h1, h2, h3⟩
      · cases hm
      · exact ⟨j, o, ad, h1, hm, h2, h3, ha, rfl⟩)
    (fun i hi oi hg hm ad ha ⟨j, o, ad', h1, h2, h3, h4, h5, h6⟩ => hst.rep.sep i j oi o ad ad' (apart i (List.mem_append_left _ hi) j o h1 h3 h4) hg (live j o h1 h3 h4) hm h2 ha (by rw [(hst.agree j (hH.dom j o h1)).1]; exact h5) h6.symm)
    (fun j j' o o' ad ad' hne hn hn' hj hj' hm hm' ha ha' => by
      rcases uncov j o hn hj with ⟨_, rfl⟩ | ⟨h1, _, _⟩
      · cases hm
      · rcases uncov j' o' hn' hj' with ⟨_, rfl⟩ | ⟨h1', _, _⟩
        · cases hm'
        · exact hH.sep j j' o o' ad ad' hne h1 h1' hm hm' ha ha')
    (fun N' hN j o hn hj => by
      rcases uncov j o hn hj with ⟨_, rfl⟩ | ⟨h1, h2, h3⟩
      · trivial
      · have hr := hst.rep.obj j o (live j o h1 h2 h3)
        rw [(hst.agree j (hH.dom j o h1)).1] at hr
        refine (hr.subN fun k hk => ?_).down hst.agree (hH.obj j o h1)
        rcases hN k hk with ⟨q, oq, ad, g1, g2, g3, g4, g5, g6⟩ | ⟨i, oi, ad, _, g2, g3, g4, g5⟩
        · exact ⟨q, oq, ad, live q oq g1 g3 g4, g2, by rw [(hst.agree q (hH.dom q oq g1)).1]; exact g5, g6⟩
        · exact ⟨i, oi, ad, g2, g3, g4, g5⟩)
  refine ⟨A', φ', ⟨hA1.size, hA1.defers, fun t x ht => ?_⟩, ⟨hrep, hL.agree, hst.ext, fun k hk => ?_⟩, hL.only, fun k hk => ?_⟩
  · rw [VEnv.get_app] at ht
    cases he : VEnv.get (instL id l d.x nx).1 t with
    | some y =>
      rw [he] at ht; cases ht
      have hm := VEnv.get_mem he
      have hlt : t < a1.tmps.size := by rw [hA1.size]; exact hc.slots t (instL_mem hm)
      have hv := hV t x hm
      simp only [Array.getD_eq_getD_getElem?, Array.getElem?_eq_getElem hlt, Option.getD_some] at hv
      exact ⟨_, Array.getElem?_eq_getElem hlt, hv⟩
    | none =>
      rw [he] at ht
      obtain ⟨h1, h2⟩ := drops_get ht
      obtain ⟨u0, _, k2⟩ := hA0.slot t x h2
      obtain ⟨u1, g1, g2⟩ := hA1.slot t x ((hkeep t h1).trans h2)
      exact ⟨u1, g1, (g2.down hst.agree k2).up hL.agree⟩
  · rcases hmb k hk with ⟨j, o, ad, g1, g2, _, _, g5, g6⟩ | ⟨i, oi, ad, _, g2, g3, g4, g5⟩
    · exact .inl ⟨j, o, ad, g1, g2, g5, g6⟩
    · exact hst.mb k ⟨i, oi, ad, g2, g3, g4, g5⟩
  · rcases hmb k hk with ⟨j, o, ad, g1, g2, g3, g4, g5, g6⟩ | ⟨i, oi, ad, _, g2, g3, g4, g5⟩
    · exact ⟨j, o, ad, live j o g1 g3 g4, g2, by rw [(hst.agree j (hH.dom j o g1)).1]; exact g5, g6⟩
    · exact ⟨i, oi, ad, g2, g3, g4, g5⟩
end
end Go.Sat
end
section
namespace Go.Sat
open Go

inductive XT
  | norm | ext (id : Nat) | ret
def XT.exit : XT → Exit
  | .norm => .normal
  | .ext i => .exit i
  | .ret => .ret
def XT.is : XT → XT → Bool
  | .norm, .norm => true
  | .ext i, .ext j => Nat.beq i j
  | .ret, .ret => true
  | _, _ => false
theorem XT.is_spec {x y : XT} (h : x.is y = true) : x = y := by
  cases x <;> cases y <;> first | rfl | cases h | exact congrArg XT.ext (Nat.eq_of_beq_eq_true h)
/-- where a stretch of code ends: how, with which frame and heap, and which names are free -/
structure Rs where
  x : XT
  E : VEnv
  H : Hp
  nx : Nat
abbrev Outs := List (XT × List Item)
@[reducible] def OutT : Outs → Type
  | [] => Empty
  | [a] => St a.2
  | a :: b :: r => St a.2 ⊕ OutT (b :: r)
def slotsO : Outs → List Nat
  | [] => []
  | a :: r => slotsL a.2 ++ slotsO r
def decOk (n nx nx1 : Nat) (D : List Nat) (H : Hp) (E1 : VEnv) (H' : Hp) (l : List Item) : Option (St l) :=
  match decL E1 H' l with
  | some d => bif nodupB (d.cm ++ d.cf) && (okIds nx nx1 D (fixL l) (d.cm ++ d.cf) && (okIds nx nx1 D (fixL l) (keysH (H'.take (H'.length - H.length))) &&
      ((D ++ fixL l).all (fun j => (H.get j).isSome) && (slotsL l).all (fun t => Nat.blt t n)))) then some d.x else none
  | none => none
theorem decOk_spec {n nx nx1 : Nat} {D : List Nat} {H H' v : Hp} {E E1 : VEnv} {l : List Item} {x : St l} (h : decOk n nx nx1 D H E1 H' l = some x) (hv : H' = v ++ H) : ∃ d, d.x = x ∧ CutOk n E E1 H v nx nx1 D l d := by
  subst hv
  unfold decOk at h
  split at h
  · rename_i d hd
    rw [show (v ++ H).take ((v ++ H).length - H.length) = v by rw [List.length_append, Nat.add_sub_cancel, List.take_left']; rfl] at h
    cases hb : nodupB (d.cm ++ d.cf) && (okIds nx nx1 D (fixL l) (d.cm ++ d.cf) && (okIds nx nx1 D (fixL l) (keysH v) &&
      ((D ++ fixL l).all (fun j => (H.get j).isSome) && (slotsL l).all (fun t => Nat.blt t n)))) with
    | false => rw [hb] at h; cases h
    | true =>
      rw [hb] at h; cases h
      simp only [Bool.and_eq_true] at hb
      obtain ⟨h1, h2, h3, h4, h6⟩ := hb
      exact ⟨d, rfl, hd, nodupB_spec h1, h2, h3, fun j hj => List.all_eq_true.1 h4 j (List.mem_append.2 hj), fun t ht => by
        have := List.all_eq_true.1 h6 t ht
        exact Nat.blt_eq ▸ this⟩
  · cases h
def pickO (n nx nx1 : Nat) (D : List Nat) (H : Hp) (x : XT) (E1 : VEnv) (H' : Hp) : (outs : Outs) → Option (OutT outs)
  | [] => none
  | [a] => bif x.is a.1 then decOk n nx nx1 D H E1 H' a.2 else none
  | a :: b :: r => match (bif x.is a.1 then decOk n nx nx1 D H E1 H' a.2 else none) with
      | some s => some (.inl s)
      | none => (match pickO n nx nx1 D H x E1 H' (b :: r) with | some s => some (.inr s) | none => none)
def instR (nx : Nat) (asg D : List Nat) (E : VEnv) (H : Hp) (x : XT) (l : List Item) (s : St l) : Rs :=
  match instL id l s nx with
  | (e, u, n1) => ⟨x, e ++ drops asg E, u ++ (deads D ++ H), n1⟩
def instO (nx : Nat) (asg D : List Nat) (E : VEnv) (H : Hp) : (outs : Outs) → OutT outs → Rs
  | [], e => nomatch e
  | [a], s => instR nx asg D E H a.1 a.2 s
  | a :: b :: r, s => match s with
    | .inl s => instR nx asg D E H a.1 a.2 s
    | .inr s => instO nx asg D E H (b :: r) s
/-- the same, as a tree -/
def altO (nx : Nat) (asg D : List Nat) (E : VEnv) (H : Hp) : (outs : Outs) → OutT outs → PT Rs
  | [], _ => .fail
  | [a], s => .ret (instR nx asg D E H a.1 a.2 s)
  | a :: b :: r, o => .alt o (fun s => .ret (instR nx asg D E H a.1 a.2 s)) fun s => altO nx asg D E H (b :: r) s
theorem altO_spec {nx : Nat} {asg D : List Nat} {E : VEnv} {H : Hp} {s : Rs} : ∀ {outs : Outs} {o : OutT outs}, PT.Ends (altO nx asg D E H outs o) s → instO nx asg D E H outs o = s := by
  intro outs
  induction outs with
  | nil => intro o h; exact h.elim
  | cons a r ih =>
    intro o h
    cases r with
    | nil => exact h
    | cons b r =>
      cases o with
      | inl x => exact h
      | inr y => exact ih h
theorem pick_spec {n nx nx1 : Nat} {asg D : List Nat} {H H' v : Hp} {x : XT} {E E1 : VEnv} (hv : H' = v ++ H) : ∀ {outs : Outs} {o : OutT outs}, pickO n nx nx1 D H x E1 H' outs = some o →
    ∃ l d, instO nx asg D E H outs o = instR nx asg D E H x l d.x ∧ CutOk n E E1 H v nx nx1 D l d ∧ ∀ t ∈ slotsL l, t ∈ slotsO outs := by
  intro outs
  induction outs with
  | nil => intro o h; cases h
  | cons a r ih =>
    intro o h
    cases r with
    | nil =>
      unfold pickO at h
      cases hx : x.is a.1 with
      | false => rw [hx] at h; cases h
      | true =>
        rw [hx] at h
        obtain ⟨d, h1, h2⟩ := decOk_spec (E := E) h hv
        have := XT.is_spec hx
        subst this
        exact ⟨a.2, d, by rw [h1]; rfl, h2, fun t ht => List.mem_append_left _ ht⟩
    | cons b r =>
      unfold pickO at h
      split at h
      · rename_i s hs
        cases h
        cases hx : x.is a.1 with
        | false => rw [hx] at hs; cases hs
        | true =>
          rw [hx] at hs
          obtain ⟨d, h1, h2⟩ := decOk_spec (E := E) hs hv
          have := XT.is_spec hx
          subst this
          exact ⟨a.2, d, by rw [h1]; rfl, h2, fun t ht => List.mem_append_left _ ht⟩
      · split at h
        · rename_i s hs
          cases h
          obtain ⟨l, d, h1, h2, h3⟩ := ih hs
          exact ⟨l, d, h1, h2, fun t ht => List.mem_append_right _ (h3 t ht)⟩
        · cases h
theorem instL_le {m : Nat → Nat} : ∀ (l : List Item) (x : St l) (n : Nat), n ≤ (instL m l x n).2.2 := by
  have mono : ∀ (p : Pat) (x : p.den) (n : Nat), n ≤ (instS p x n).2.2 := by
    intro p
    induction p with
    | ty t => intro x n; exact openT_le t x n
    | own t e => intro x n; exact Nat.le_succ _
    | wnd t e f => intro x n; exact Nat.le_succ _
    | ptr T p ih => intro x n; exact Nat.le_trans (Nat.le_succ _) (ih x (n + 1))
    | pr a b iha ihb => intro x n; exact Nat.le_trans (iha x.1 n) (ihb x.2 _)
    | unit => intro x n; exact Nat.le_refl _
    | nils => intro x n; exact Nat.le_refl _
    | fn g a b iha ihb => intro x n; exact Nat.le_trans (iha x.1 n) (ihb x.2 _)
  have monoI : ∀ (i : Item) (x : i.den) (n : Nat), n ≤ (instI m i x n).2.2 := by
    intro i x n
    cases i with
    | slot t p => exact mono p x n
    | agg t p => exact mono p x n
    | blk j T p => exact mono p x n
    | row j t e => exact Nat.le_refl _
    | rdn j q => exact Nat.le_refl _
    | rowf j t e => exact Nat.le_refl _
  intro l
  induction l with
  | nil => intro x n; exact Nat.le_refl _
  | cons i r ih =>
    intro x n
    cases r with
    | nil => exact monoI i x n
    | cons j r => exact Nat.le_trans (monoI i x.1 n) (ih x.2 _)

/-! ### blocks that nobody touches; marks -/
def Quiet (φ : Ph) (H : Hp) (w : World) (k : Nat) (o : Go.Obj) : Prop := w.heap[k]? = some o ∧ ¬ MB φ H k
theorem Quiet.lt {φ : Ph} {H : Hp} {w : World} {k : Nat} {o : Go.Obj} (h : Quiet φ H w k o) : k < w.heap.size := (Array.getElem?_eq_some_iff.1 h.1).1
theorem Quiet.stp {φ φ' : Ph} {A A' : Nat → Prop} {H H' : Hp} {w w' : World} {k : Nat} {o : Go.Obj} (h : Quiet φ H w k o) (s : Stp A φ H w A' φ' H' w') : Quiet φ' H' w' k o :=
  ⟨(s.ext.same k h.lt h.2).trans h.1, fun hm => (s.mb k hm).elim h.2 fun hle => absurd h.lt (by omega)⟩
theorem Quiet.sub {φ φ' : Ph} {H H' : Hp} {w : World} {k : Nat} {o : Go.Obj} (h : Quiet φ H w k o) (hs : ∀ k, MB φ' H' k → MB φ H k) : Quiet φ' H' w k o := ⟨h.1, fun hm => h.2 (hs k hm)⟩
/-- what a loop over a function leaves at the activation -/
def markOf (d : Nat) : Deferred := { target := .collected d, args := #[] }
def MarksAt (lo : Nat) (ms : List Nat) (φ : Ph) (H : Hp) (w : World) : Prop := ms.Nodup ∧ ∀ d ∈ ms, lo ≤ d ∧ Quiet φ H w d (.deferred (some []))
theorem MarksAt.nil {lo : Nat} {φ : Ph} {H : Hp} {w : World} : MarksAt lo [] φ H w := ⟨List.nodup_nil, fun d hd => (by cases hd)⟩
theorem MarksAt.stp {lo : Nat} {ms : List Nat} {φ φ' : Ph} {A A' : Nat → Prop} {H H' : Hp} {w w' : World} (h : MarksAt lo ms φ H w) (s : Stp A φ H w A' φ' H' w') : MarksAt lo ms φ' H' w' := ⟨h.1, fun d hd => ⟨(h.2 d hd).1, (h.2 d hd).2.stp s⟩⟩
theorem MarksAt.sub {lo : Nat} {ms : List Nat} {φ φ' : Ph} {H H' : Hp} {w : World} (h : MarksAt lo ms φ H w) (hs : ∀ k, MB φ' H' k → MB φ H k) : MarksAt lo ms φ' H' w := ⟨h.1, fun d hd => ⟨(h.2 d hd).1, (h.2 d hd).2.sub hs⟩⟩
theorem MarksAt.app {lo : Nat} {ms ms' : List Nat} {φ φ' : Ph} {A A' : Nat → Prop} {H H' : Hp} {w w' : World} (h : MarksAt lo ms φ H w) (s : Stp A φ H w A' φ' H' w') (k : MarksAt w.heap.size ms' φ' H' w') (hle : lo ≤ w.heap.size) : MarksAt lo (ms' ++ ms) φ' H' w' := by
  refine ⟨List.nodup_append.2 ⟨k.1, h.1, fun x hx y hy e => ?_⟩, fun d hd => ?_⟩
  · subst e
    have h1 := (k.2 x hx).1
    have h2 := (h.2 x hy).2.lt
    omega
  · rcases List.mem_append.1 hd with hd | hd
    · exact ⟨Nat.le_trans hle (k.2 d hd).1, (k.2 d hd).2⟩
    · exact ⟨(h.2 d hd).1, (h.2 d hd).2.stp s⟩
/-- where a frame is a round's: the record of its loop -/
def RoundAt (r rj : Option Nat) (φ : Ph) (A : Nat → Prop) : Prop := match r, rj with
  | none, none => True
  | some l, some j => A j ∧ (φ j).addr = some ⟨l, 0, none⟩
  | _, _ => False
theorem RoundAt.up {r rj : Option Nat} {φ φ' : Ph} {A A' : Nat → Prop} (h : RoundAt r rj φ A) (ha : Agree φ φ' A A') : RoundAt r rj φ' A' := by
  cases r <;> cases rj <;> first | exact h | exact ⟨(ha _ h.1).2, by rw [(ha _ h.1).1]; exact h.2⟩
def ComesM (n : Nat) (ds : List Deferred) (A : Nat → Prop) (φ : Ph) (H : Hp) (w : World) (E' : VEnv) (H' : Hp) (nx nx' : Nat) (a' : Act) (w' : World) : Prop :=
  ∃ A' φ' ms, AtV n (List.map markOf ms ++ ds) φ' A' E' a' ∧ MarksAt w.heap.size ms φ' H' w' ∧ Stp A φ H w A' φ' H' w' ∧ ∀ j, A' j → A j ∨ (nx ≤ j ∧ j < nx')
theorem ComesM.of {n : Nat} {ds : List Deferred} {A : Nat → Prop} {φ : Ph} {H : Hp} {w : World} {E' : VEnv} {H' : Hp} {nx nx' : Nat} {a' : Act} {w' : World} (h : Comes n ds A φ H w E' H' nx nx' a' w') : ComesM n ds A φ H w E' H' nx nx' a' w' :=
  let ⟨A', φ', h1, h2, h3⟩ := h; ⟨A', φ', [], h1, .nil, h2, h3⟩
theorem ComesM.trans {n : Nat} {ds : List Deferred} {A A1 : Nat → Prop} {φ φ1 : Ph} {H H1 : Hp} {w w1 : World} {ms : List Nat} {E' : VEnv} {H' : Hp} {nx nx1 nx' : Nat} {a' : Act} {w' : World} (h : Stp A φ H w A1 φ1 H1 w1) (hm : MarksAt w.heap.size ms φ1 H1 w1) (ho : ∀ j, A1 j → A j ∨ (nx ≤ j ∧ j < nx1)) (h1 : nx ≤ nx1) (h2 : nx1 ≤ nx')
    (k : ComesM n (List.map markOf ms ++ ds) A1 φ1 H1 w1 E' H' nx1 nx' a' w') : ComesM n ds A φ H w E' H' nx nx' a' w' :=
  let ⟨A', φ', ms', k1, k2, k3, k4⟩ := k
  ⟨A', φ', ms' ++ ms, by rw [List.map_append, List.append_assoc]; exact k1, hm.app k3 k2 h.ext.size, h.trans k3, fun j hj => (k4 j hj).elim (fun h => (ho j h).imp id fun h => ⟨h.1, by omega⟩) fun h => .inr ⟨by omega, h.2⟩⟩

/-! ### what a stretch of code comes to, soundly -/
structure Snd (P : Program) (n : Nat) (rj : Option Nat) (c : Code) (E : VEnv) (H : Hp) (nx : Nat) (asg : List Nat) (x : XT) (E' : VEnv) (u : Hp) (nx' M : Nat) : Prop where
  le : nx ≤ nx'
  leM : nx' ≤ M
  keep : ∀ t, t ∉ asg → E'.get t = E.get t
  norec : NoRec u
  wp : ∀ {r : Option Nat} {ds : List Deferred} {Q : Exit → Act → World → Prop} {H1 : Hp} {A : Nat → Prop} {φ : Ph} {a : Act} {w : World}, Sub H H1 → AtV n ds φ A E a → RepH A φ H1 w → Fresh A nx M → RoundAt r rj φ A → (∀ a' w', ComesM n ds A φ H1 w E' (u ++ H1) nx nx' a' w' → Q x.exit a' w') → c.wpIn (FW r) 0 P Q a w
def SndR (P : Program) (n : Nat) (rj : Option Nat) (c : Code) (E : VEnv) (H : Hp) (nx : Nat) (asg : List Nat) (s : Rs) : Prop :=
  ∃ u M, s.H = u ++ H ∧ Snd P n rj c E H nx asg s.x s.E u s.nx M
theorem Snd.mono {P : Program} {n : Nat} {rj : Option Nat} {c : Code} {E : VEnv} {H : Hp} {nx : Nat} {asg : List Nat} {x : XT} {E' : VEnv} {u : Hp} {nx' M M' : Nat} (h : Snd P n rj c E H nx asg x E' u nx' M) (hm : M ≤ M') : Snd P n rj c E H nx asg x E' u nx' M' :=
  ⟨h.le, Nat.le_trans h.leM hm, h.keep, h.norec, fun hs hA hH hf hR hk => h.wp hs hA hH (hf.before hm) hR hk⟩
theorem noRec_deads (D : List Nat) : NoRec (deads D) := fun p hp => by
  obtain ⟨j, _, rfl⟩ := List.mem_map.1 hp
  rfl
theorem noRec_instL : ∀ (l : List Item) (x : St l) (nx : Nat), NoRec (instL id l x nx).2.1 := by
  have openT_nr : ∀ (t : Ty) (x : t.den) (n : Nat), NoRec (openT t x n).2.1 := by
    intro t
    induction t with
    | pr a b iha ihb => intro x n; exact (iha x.1 n).app (ihb x.2 _)
    | sl t _ => intro x n p hp; have hp' : p ∈ [(n, Obj.ro t x)] := hp; rw [List.mem_singleton.1 hp']; rfl
    | _ => intro x n p hp; cases hp
  have nrS : ∀ (p : Pat) (x : p.den) (n : Nat), NoRec (instS p x n).2.1 := by
    intro p
    induction p with
    | ty t => intro x n; exact openT_nr t x n
    | own t e => intro x n q hq; have hq' : q ∈ [(n, Obj.own t e x false)] := hq; rw [List.mem_singleton.1 hq']; rfl
    | wnd t e f => intro x n q hq; have hq' : q ∈ [(n, Obj.own t e (x.1 ++ (x.2.1 ++ x.2.2)) f)] := hq; rw [List.mem_singleton.1 hq']; rfl
    | ptr T p ih => intro x n q hq; rcases List.mem_cons.1 hq with rfl | hq
                    · rfl
                    · exact ih x (n + 1) q hq
    | pr a b iha ihb => intro x n; exact (iha x.1 n).app (ihb x.2 _)
    | unit => intro x n q hq; cases hq
    | nils => intro x n q hq; cases hq
    | fn g a b iha ihb => intro x n; exact (iha x.1 n).app (ihb x.2 _)
  have nrI : ∀ (i : Item) (x : i.den) (n : Nat), NoRec (instI id i x n).2.1 := by
    intro i x n
    cases i with
    | slot t p => exact nrS p x n
    | agg t p => exact nrS p x n
    | blk j T p => intro q hq; rcases List.mem_cons.1 hq with rfl | hq
                   · rfl
                   · exact nrS p x n q hq
    | row j t e => intro q hq; rw [List.mem_singleton.1 hq]; rfl
    | rdn j z => intro q hq; rw [List.mem_singleton.1 hq]; rfl
    | rowf j t e => intro q hq; rw [List.mem_singleton.1 hq]; rfl
  intro l
  induction l with
  | nil => intro x n q hq; cases hq
  | cons i r ih =>
    intro x n
    cases r with
    | nil => exact nrI i x n
    | cons k r => exact (nrI i x.1 n).app (ih x.2 _)
theorem keep_inst {asg : List Nat} {E : VEnv} {l : List Item} {s : St l} {nx t : Nat} (h : t ∉ asg) (hs : t ∉ slotsL l) : VEnv.get ((instL id l s nx).1 ++ drops asg E) t = E.get t := by
  rw [VEnv.get_app]
  cases he : VEnv.get (instL id l s nx).1 t with
  | some y => exact absurd (instL_mem (VEnv.get_mem he)) hs
  | none => exact drops_mem h
section
variable {P : Program} {n : Nat} {rj : Option Nat} {c : Code}
def cutV (n : Nat) (asg : List Nat) (outs : Outs) (D : List Nat) (E : VEnv) (H : Hp) (nx : Nat) (m : PT Rs) : PT Rs :=
  .bind (PT.run (m.andThen fun s => PT.opt (pickO n nx s.nx D H s.x s.E s.H outs))) fun o => altO nx asg D E H outs o
theorem cutV_snd {asg D : List Nat} {outs : Outs} {E : VEnv} {H : Hp} {nx : Nat} {m : PT Rs} {s : Rs} (hm : ∀ s, PT.Ends m s → SndR P n rj c E H nx asg s) (h : PT.Ends (cutV n asg outs D E H nx m) s) : SndR P n rj c E H nx (asg ++ slotsO outs) s := by
  obtain ⟨o, ho, hs0⟩ := h
  have hs := altO_spec hs0
  clear hs0
  obtain ⟨s1, h1, h2⟩ := PT.ends_then.1 (PT.ends_run.2 ho)
  obtain ⟨u, M, hu, hsd⟩ := hm s1 h1
  obtain ⟨l, d, e, hc, hl⟩ := pick_spec (asg := asg) (E := E) hu (PT.ends_opt.1 h2)
  have hs' : s = instR nx asg D E H s1.x l d.x := hs.symm.trans e
  subst hs'
  refine ⟨(instL id l d.x nx).2.1 ++ deads D, max M (instL id l d.x nx).2.2, by rw [List.append_assoc]; rfl, instL_le l d.x nx, Nat.le_max_right _ _, fun t ht => ?_, (noRec_instL l d.x nx).app (noRec_deads D), fun {r ds Q H1 A φ a w} hsub hA hH hf hR hk => ?_⟩
  · exact keep_inst (fun hm => ht (List.mem_append_left _ hm)) fun hm => ht (List.mem_append_right _ (hl t hm))
  · refine hsd.wp hsub hA hH (hf.before (Nat.le_max_left _ _)) hR fun a' w' ⟨A1, φ1, ms, k1, km, k2, k3⟩ => ?_
    refine hk a' w' ?_
    obtain ⟨A2, φ2, g1, g2, g3, g4⟩ := cut_step (l := l) (d := d) (M := max M (instL id l d.x nx).2.2) (asg := asg) hc hsub hH hA hf (Nat.le_trans hsd.leM (Nat.le_max_left _ _)) (Nat.le_max_right _ _) k2 k1 hsd.keep
    rw [List.append_assoc]
    exact ⟨A2, φ2, ms, g1, km.sub g4, g2, g3⟩

/-! ### loops -/
inductive RunsK {S O : Type} (step : S → Option (S ⊕ O)) : Nat → S → O → Prop
  | done {s : S} {o : O} (h : step s = some (.inr o)) : RunsK step 0 s o
  | more {s s' : S} {o : O} {k : Nat} (h : step s = some (.inl s')) (hk : RunsK step k s' o) : RunsK step (k + 1) s o
open Classical in
noncomputable def loopS {S O : Type} (step : S → Option (S ⊕ O)) (s : S) : Option O :=
  if h : ∃ o k, RunsK step k s o then some (Classical.choose h) else none
theorem loopS_runs {S O : Type} {step : S → Option (S ⊕ O)} {s : S} {o : O} (h : loopS step s = some o) : ∃ k, RunsK step k s o := by
  unfold loopS at h
  split at h
  · rename_i he
    cases h
    exact Classical.choose_spec he
  · cases h
theorem RunsK.det {S O : Type} {step : S → Option (S ⊕ O)} {k k' : Nat} {s : S} {o o' : O} (h : RunsK step k s o) (h' : RunsK step k' s o') : o = o' := by
  induction h generalizing k' with
  | done h => cases h' with
    | done h2 => rw [h] at h2; cases h2; rfl
    | more h2 _ => rw [h] at h2; cases h2
  | more h _ ih => cases h' with
    | done h2 => rw [h] at h2; cases h2
    | more h2 k2 => rw [h] at h2; cases h2; exact ih k2
theorem runs_loopS {S O : Type} {step : S → Option (S ⊕ O)} {k : Nat} {s : S} {o : O} (h : RunsK step k s o) : loopS step s = some o := by
  have he : ∃ o k, RunsK step k s o := ⟨o, k, h⟩
  unfold loopS
  rw [dif_pos he]
  obtain ⟨k', hk⟩ := Classical.choose_spec he
  exact congrArg some (hk.det h)
/-- a loop, unrolled once -/
theorem loopS_unroll {S O : Type} (step : S → Option (S ⊕ O)) (s : S) : loopS step s = (match step s with | some (.inl s') => loopS step s' | some (.inr o) => some o | none => none) := by
  cases h : loopS step s with
  | some o =>
    obtain ⟨k, hk⟩ := loopS_runs h
    cases hk with
    | done h => rw [h]
    | more h k2 => rw [h]; exact (runs_loopS k2).symm
  | none =>
    split
    · rename_i s' hs
      cases h2 : loopS step s' with
      | none => rfl
      | some o =>
        obtain ⟨k, hk⟩ := loopS_runs h2
        rw [runs_loopS (.more hs hk)] at h; cases h
    · rename_i o hs; rw [runs_loopS (.done hs)] at h; cases h
    · rfl
inductive RunsF {S O : Type} (F : S → S ⊕ O → Nat → Prop) (M : Nat) : Nat → S → O → Prop
  | done {s : S} {o : O} {m : Nat} (h : F s (.inr o) m) (hm : m ≤ M) : RunsF F M 0 s o
  | more {s s' : S} {o : O} {k m : Nat} (h : F s (.inl s') m) (hm : m ≤ M) (hk : RunsF F M k s' o) : RunsF F M (k + 1) s o
theorem RunsF.mono {S O : Type} {F : S → S ⊕ O → Nat → Prop} {M M' k : Nat} {s : S} {o : O} (h : RunsF F M k s o) (hm : M ≤ M') : RunsF F M' k s o := by
  induction h with
  | done h h2 => exact .done h (Nat.le_trans h2 hm)
  | more h h2 _ ih => exact .more h (Nat.le_trans h2 hm) ih
theorem RunsK.bound {S O : Type} {step : S → Option (S ⊕ O)} {F : S → S ⊕ O → Nat → Prop} (hF : ∀ s x, step s = some x → ∃ m, F s x m) {k : Nat} {s : S} {o : O} (h : RunsK step k s o) : ∃ M, RunsF F M k s o := by
  induction h with
  | done h => obtain ⟨m, hm⟩ := hF _ _ h; exact ⟨m, .done hm (Nat.le_refl _)⟩
  | more h _ ih =>
    obtain ⟨m, hm⟩ := hF _ _ h
    obtain ⟨M, hM⟩ := ih
    exact ⟨max m M, .more hm (Nat.le_max_left _ _) (hM.mono (Nat.le_max_right _ _))⟩
theorem wpIn_loop_nat {F : Fence} {m : Nat} {Q : Exit → Act → World → Prop} {a : Act} {w : World} (I : Nat → Act → World → Prop) (k : Nat) (h0 : I k a w)
    (round : ∀ k a w, I k a w → c.wpIn F m P (Exit.then (fun a' w' => ∃ j, j < k ∧ I j a' w') Q) a w) : (Code.loop c).wpIn F m P Q a w := by
  refine wpIn_loop (fun a w => ∃ m, I m a w) (fun a w => open Classical in if h : ∃ m, I m a w then Classical.choose (least h) else 0) ⟨_, h0⟩ ?_
  intro a w hI
  obtain ⟨hm, hmin⟩ := Classical.choose_spec (least hI)
  refine wpIn_mono (round _ a w hm) ?_
  intro e a' w' hq
  cases e with
  | normal =>
    obtain ⟨j, hlt, hj⟩ := hq
    have hI' : ∃ m, I m a' w' := ⟨_, hj⟩
    refine ⟨hI', ?_⟩
    simp only [dif_pos hI, dif_pos hI']
    have := (Classical.choose_spec (least hI')).2 _ hj
    omega
  | _ => exact hq
/-- how a round ends -/
def stepO (n nx : Nat) (D : List Nat) (H : Hp) (vars : List Item) (outs : Outs) (s : Rs) : Option (St vars ⊕ OutT outs) :=
  match s.x with
  | .norm => (match decOk n nx s.nx D H s.E s.H vars with | some v => some (.inl v) | none => none)
  | x => (match pickO n nx s.nx D H x s.E s.H outs with | some o => some (.inr o) | none => none)
noncomputable def loopV (n : Nat) (asg : List Nat) (vars : List Item) (outs : Outs) (D : List Nat) (E : VEnv) (H : Hp) (nx : Nat) (body : VEnv → Hp → Nat → PT Rs) : PT Rs :=
  match decOk n nx nx D H E H vars with
  | some s0 => .bind (loopS (fun s => match instL id vars s nx with
      | (e, u, n1) => PT.run ((body (e ++ drops asg E) (u ++ (deads D ++ H)) n1).andThen fun s => PT.opt (stepO n nx D H vars outs s))) s0) fun o => altO nx asg D E H outs o
  | none => .fail
theorem stepO_inl {nx : Nat} {D : List Nat} {H : Hp} {vars : List Item} {outs : Outs} {s : Rs} {v : St vars} (h : stepO n nx D H vars outs s = some (.inl v)) : s.x = .norm ∧ decOk n nx s.nx D H s.E s.H vars = some v := by
  unfold stepO at h
  split at h
  · rename_i hx
    split at h
    · cases h; exact ⟨hx, by assumption⟩
    · cases h
  · split at h <;> cases h
theorem stepO_inr {nx : Nat} {D : List Nat} {H : Hp} {vars : List Item} {outs : Outs} {s : Rs} {o : OutT outs} (h : stepO n nx D H vars outs s = some (.inr o)) : s.x ≠ .norm ∧ pickO n nx s.nx D H s.x s.E s.H outs = some o := by
  unfold stepO at h
  split at h
  · split at h <;> cases h
  · rename_i hx
    split at h
    · cases h; exact ⟨fun e => hx e, by assumption⟩
    · cases h
theorem loopV_snd {asg0 asg D : List Nat} {vars : List Item} {outs : Outs} {E : VEnv} {H : Hp} {nx : Nat} {body : VEnv → Hp → Nat → PT Rs} {s : Rs} (hb0 : ∀ E u nx s, NoRec u → PT.Ends (body E (u ++ H) nx) s → SndR P n rj c E (u ++ H) nx asg0 s)
    (ha : ∀ t, t ∉ asg → t ∉ asg0 ∧ t ∉ slotsL vars) (h : PT.Ends (loopV n asg vars outs D E H nx body) s) : SndR P n rj (.loop c) E H nx (asg ++ slotsO outs) s := by
  unfold loopV at h
  split at h
  · rename_i s0 hs0
    have hb : ∀ (v : St vars) E nx' s, PT.Ends (body E ((instL id vars v nx).2.1 ++ (deads D ++ H)) nx') s → SndR P n rj c E ((instL id vars v nx).2.1 ++ (deads D ++ H)) nx' asg0 s := fun v E nx' s h => by
      rw [← List.append_assoc] at h ⊢
      exact hb0 _ _ _ _ ((noRec_instL vars v nx).app (noRec_deads D)) h
    obtain ⟨o, ho, hs'⟩ := h
    have hs := altO_spec hs'
    clear hs'
    obtain ⟨k, hk⟩ := loopS_runs ho
    obtain ⟨M0, hM0⟩ := hk.bound (F := fun v x m => ∃ s u, stepO n nx D H vars outs s = some x ∧ s.H = u ++ ((instL id vars v nx).2.1 ++ (deads D ++ H)) ∧
        Snd P n rj c ((instL id vars v nx).1 ++ drops asg E) ((instL id vars v nx).2.1 ++ (deads D ++ H)) (instL id vars v nx).2.2 asg0 s.x s.E u s.nx m ∧ ∀ v', x = .inl v' → (instL id vars v' nx).2.2 ≤ m) fun v x hx => by
      obtain ⟨s1, h1, h2⟩ := PT.ends_then.1 (PT.ends_run.2 hx)
      obtain ⟨u, m, h3, h4⟩ := hb _ _ _ _ h1
      refine ⟨max m (match x with | .inl v' => (instL id vars v' nx).2.2 | .inr _ => 0), s1, u, PT.ends_opt.1 h2, h3, h4.mono (Nat.le_max_left _ _), fun v' e => ?_⟩
      subst e; exact Nat.le_max_right _ _
    -- how far the names of the end go
    have fin : ∃ x l, ∃ d : St l, instO nx asg D E H outs o = instR nx asg D E H x l d ∧ ∀ t ∈ slotsL l, t ∈ slotsO outs := by
      clear hM0 ho hs hs0
      induction hk with
      | @done v0 _ h =>
        obtain ⟨s1, h1, h2⟩ := PT.ends_then.1 (PT.ends_run.2 h)
        obtain ⟨u, m, h3, h4⟩ := hb _ _ _ _ h1
        obtain ⟨_, h5⟩ := stepO_inr (PT.ends_opt.1 h2)
        obtain ⟨l, d, e, _, hl⟩ := pick_spec (asg := asg) (E := E) (v := u ++ ((instL id vars v0 nx).2.1 ++ deads D)) (by rw [h3]; simp only [List.append_assoc]) h5
        exact ⟨_, l, d.x, e, hl⟩
      | more _ _ ih => exact ih
    obtain ⟨x, l, dx, hfin, hslo⟩ := fin
    have hs' : s = instR nx asg D E H x l dx := hs.symm.trans hfin
    subst hs'
    obtain ⟨d0, e0, hc0⟩ := decOk_spec (E := E) (v := []) hs0 rfl
    let M := max M0 (max (instL id vars s0 nx).2.2 (instL id l dx nx).2.2)
    refine ⟨(instL id l dx nx).2.1 ++ deads D, M, by rw [List.append_assoc]; rfl, instL_le l dx nx, Nat.le_trans (Nat.le_max_right _ _) (Nat.le_max_right _ _), fun t ht => ?_, (noRec_instL l dx nx).app (noRec_deads D), fun {r ds Q H1 A φ a w} hsub hA hH hf hR hk => ?_⟩
    · exact keep_inst (fun hm => ht (List.mem_append_left _ hm)) fun hm => ht (List.mem_append_right _ (hslo t hm))
    · have hM0' := hM0.mono (Nat.le_max_left M0 (max (instL id vars s0 nx).2.2 (instL id l dx nx).2.2))
      refine wpIn_loop_nat (fun k a1 w1 => ∃ v, (instL id vars v nx).2.2 ≤ M ∧ RunsF (fun v x m => ∃ s u, stepO n nx D H vars outs s = some x ∧ s.H = u ++ ((instL id vars v nx).2.1 ++ (deads D ++ H)) ∧
        Snd P n rj c ((instL id vars v nx).1 ++ drops asg E) ((instL id vars v nx).2.1 ++ (deads D ++ H)) (instL id vars v nx).2.2 asg0 s.x s.E u s.nx m ∧ ∀ v', x = .inl v' → (instL id vars v' nx).2.2 ≤ m) M k v o ∧
        ComesM n ds A φ H1 w ((instL id vars v nx).1 ++ drops asg E) ((instL id vars v nx).2.1 ++ (deads D ++ H1)) nx (instL id vars v nx).2.2 a1 w1) k ⟨s0, Nat.le_trans (Nat.le_max_left _ _) (Nat.le_max_right _ _), hM0', ?_⟩ ?_
      · have := cut_step (l := vars) (d := d0) (M := M) (asg := asg) (n := n) (ds := ds) (ds0 := ds) hc0 hsub hH hA hf (by exact Nat.le_trans (instL_le vars s0 nx) (Nat.le_trans (Nat.le_max_left _ _) (Nat.le_max_right _ _))) (by rw [e0]; exact Nat.le_trans (Nat.le_max_left _ _) (Nat.le_max_right _ _)) (Stp.refl hH) hA (fun _ _ => rfl)
        rw [e0] at this
        obtain ⟨A2, φ2, g1, g2, g3, _⟩ := this
        exact ⟨A2, φ2, [], g1, .nil, g2, g3⟩
      · rintro k1 a1 w1 ⟨v, hvM, hrun, A1, φ1, ms, c1, cm, c2, c3⟩
        -- a round
        have round : ∀ {x : St vars ⊕ OutT outs} {m : Nat} {s1 : Rs} {u : Hp} {Q' : Exit → Act → World → Prop}, m ≤ M → s1.H = u ++ ((instL id vars v nx).2.1 ++ (deads D ++ H)) →
            Snd P n rj c ((instL id vars v nx).1 ++ drops asg E) ((instL id vars v nx).2.1 ++ (deads D ++ H)) (instL id vars v nx).2.2 asg0 s1.x s1.E u s1.nx m →
            (∀ a2 w2, (∀ (l : List Item) (d : DcI (St l)), (instL id l d.x nx).2.2 ≤ M → CutOk n E s1.E H (u ++ ((instL id vars v nx).2.1 ++ deads D)) nx s1.nx D l d → ComesM n ds A φ H1 w ((instL id l d.x nx).1 ++ drops asg E) ((instL id l d.x nx).2.1 ++ (deads D ++ H1)) nx (instL id l d.x nx).2.2 a2 w2) → Q' s1.x.exit a2 w2) → c.wpIn (FW r) 0 P Q' a1 w1 := by
          intro x m s1 u Q' hm hu hsd hq
          refine hsd.wp (Sub.app (Sub.app hsub _) _) c1 c2.rep ((hf.after c3 (instL_le vars v nx)).before hm) (hR.up c2.agree) fun a2 w2 ⟨A2, φ2, ms2, g1, gm, g2, _⟩ => hq a2 w2 fun l d hd hc => ?_
          have hst : Stp A φ H1 w A2 φ2 ((u ++ ((instL id vars v nx).2.1 ++ deads D)) ++ H1) w2 := by
            have := c2.trans g2
            simpa only [List.append_assoc] using this
          obtain ⟨A3, φ3, f1, f2, f3, f4⟩ := cut_step hc hsub hH hA hf (Nat.le_trans hsd.leM hm) hd (A1 := A2) (φ1 := φ2) hst g1 fun t ht => (hsd.keep t (ha t ht).1).trans (keep_inst ht (ha t ht).2)
          refine ⟨A3, φ3, ms2 ++ ms, by rw [List.map_append, List.append_assoc]; exact f1, ?_, f2, f3⟩
          have h5 := cm.app g2 gm c2.ext.size
          refine h5.sub fun k hk => ?_
          have := f4 k hk
          simpa only [List.append_assoc] using this
        cases hrun with
        | @done _ _ m h hm =>
          obtain ⟨s1, u, h1, h2, h3, _⟩ := h
          obtain ⟨hx, hp⟩ := stepO_inr h1
          obtain ⟨l', d, e, hc, _⟩ := pick_spec (asg := asg) (E := E) (v := u ++ ((instL id vars v nx).2.1 ++ deads D)) (by rw [h2]; simp only [List.append_assoc]) hp
          refine round (x := .inr o) hm h2 h3 fun a2 w2 hq => ?_
          have e2 := e.symm.trans hfin
          have ex : s1.x = x := congrArg Rs.x e2
          have eE : (instL id l' d.x nx).1 ++ drops asg E = (instL id l dx nx).1 ++ drops asg E := congrArg Rs.E e2
          have eH : (instL id l' d.x nx).2.1 ++ (deads D ++ H) = (instL id l dx nx).2.1 ++ (deads D ++ H) := congrArg Rs.H e2
          have en : (instL id l' d.x nx).2.2 = (instL id l dx nx).2.2 := congrArg Rs.nx e2
          have hq' := hq l' d (by rw [en]; exact Nat.le_trans (Nat.le_max_right _ _) (Nat.le_max_right _ _)) hc
          rw [eE, en, List.append_cancel_right eH] at hq'
          have := hk a2 w2 (by rw [List.append_assoc]; exact hq')
          rw [← ex] at this
          cases hxx : s1.x with
          | norm => exact absurd hxx hx
          | ext i => rw [hxx] at this; exact this
          | ret => rw [hxx] at this; exact this
        | @more _ s' _ k2 m h hm hrest =>
          obtain ⟨s1, u, h1, h2, h3, h4⟩ := h
          obtain ⟨hx, hp⟩ := stepO_inl h1
          obtain ⟨d, e, hc⟩ := decOk_spec (E := E) (v := u ++ ((instL id vars v nx).2.1 ++ deads D)) hp (by rw [h2]; simp only [List.append_assoc])
          refine round (x := .inl s') hm h2 h3 fun a2 w2 hq => ?_
          rw [hx]
          have hle := Nat.le_trans (h4 s' rfl) hm
          have hq' := hq vars d (by rw [e]; exact hle) hc
          rw [e] at hq'
          exact ⟨k2, Nat.lt_succ_self _, s', hle, hrest, hq'⟩
  · exact h.elim
end
end Go.Sat
end
section
namespace Go.Sat
open Go

/-- what is said of code: where states are laid anew -/
inductive AT
  | nil
  | node (l r : AT)
  | cut (outs : Outs) (D : List Nat) (t : AT)
  | loop (vars : List Item) (outs : Outs) (D : List Nat) (t : AT)
  | rng (it asn body : AT)
def AT.ra : AT → AT
  | .rng _ a _ => a
  | _ => .nil
def AT.rb : AT → AT
  | .rng _ _ b => b
  | _ => .nil
/-- what runs a function's code, from arguments -/
abbrev Iter := Caller → FuncId → AT → List VV → Hp → Nat → PT (Hp × Nat)
def preH (H' H : Hp) : Hp := H'.take (H'.length - H.length)
theorem preH_app (u H : Hp) : preH (u ++ H) H = u := by
  unfold preH
  rw [List.length_append, Nat.add_sub_cancel, List.take_left']; rfl
def noKey (j : Nat) (u : Hp) : Hp := u.filter fun p => !Nat.beq p.1 j
theorem noKey_self (j : Nat) (u : Hp) : (noKey j u).get j = none := get_keys fun h => by
  obtain ⟨p, h1, h2⟩ := List.mem_map.1 h
  have := (List.mem_filter.1 h1).2
  rw [h2, Nat.beq_refl] at this; cases this
theorem noKey_ne {j q : Nat} (u : Hp) (h : q ≠ j) : (noKey j u).get q = u.get q := by
  induction u with
  | nil => rfl
  | cons p u ih =>
    obtain ⟨k, x⟩ := p
    unfold noKey at ih ⊢
    rw [List.filter_cons]
    by_cases e : k = j
    · subst e
      simp only [Nat.beq_refl, Bool.not_true, Bool.false_eq_true, if_false]
      rw [ih, get_ne _ _ (Ne.symm h)]
    · simp only [nbeq e, Bool.not_false, if_true]
      simp only [Hp.get, ih]
theorem noKey_sub {j : Nat} {u : Hp} {p : Nat × Obj} (h : p ∈ noKey j u) : p ∈ u ∧ p.1 ≠ j := by
  obtain ⟨h1, h2⟩ := List.mem_filter.1 h
  exact ⟨h1, fun e => by rw [e, Nat.beq_refl] at h2; cases h2⟩
def putPs : VEnv → List Nat → List VV → VEnv
  | E, p :: ps, v :: vs => putPs ((p, v) :: E) ps vs
  | E, _, _ => E
def withY (G : Caller) (j : Nat) (Y : List VV → Hp → Nat → PT SR) : Caller
  | .yld i, args, H, nx => bif Nat.beq i j then Y args H nx else G (.yld i) args H nx
  | .fn f, args, H, nx => G (.fn f) args H nx
def Jump.xt : Jump → XT
  | .ret => .ret
  | .ext i => .ext i
/-- what a round tells the iterator, and what becomes of the loop's record -/
def roundOut (jr : Nat) (u : Hp) (rd : List Nat) (nx : Nat) : XT → SR
  | .norm => ⟨VV.bool true, u, rd, nx⟩
  | .ret => ⟨VV.bool false, (jr, .rdn .ret) :: u, rd, nx⟩
  | .ext i => ⟨VV.bool false, (jr, .rdn (.ext i)) :: u, rd, nx⟩
def roundY (jr : Nat) (R : RecD) (dA dB : VEnv → Hp → Nat → PT Rs) (args : List VV) (H : Hp) (nx : Nat) : PT SR :=
  bif Nat.beq args.length R.ps.length then
    (match H.get jr with
     | some (.rcd false _) => (dA (putPs R.E R.ps args) H nx).andThen fun s1 =>
       (match s1.x, s1.H.get jr with
        | .norm, some (.rcd false _) => (dB s1.E ((jr, .rcd true R) :: s1.H) s1.nx).andThen fun s =>
          (match s.H.get jr with
           | some (.rcd true _) => .ret (roundOut jr (noKey jr (preH s.H H)) (keysH H) s.nx s.x)
           | _ => .fail)
        | _, _ => .fail)
     | _ => .fail)
  else .fail
def roundOk (rj : Option Nat) (H : Hp) : Bool := match rj with
  | none => true
  | some j => (match H.get j with | some (.rcd _ _) => true | _ => false)
def rangeV (P : Program) (n : Nat) (I : Iter) (rj : Option Nat) (G : Caller) (t : AT) (g : Operand) (ps : Array Tmp) (asn body : Code) (dA dB : VEnv → Hp → Nat → PT Rs) (E : VEnv) (H : Hp) (nx : Nat) : PT Rs :=
  match evV E g, t with
  | some (.a (.one (.fn (.func f) [] caps))), .rng ti _ _ =>
    bif (H.get nx).isNone && (okCall P f && (roundOk rj H && ps.toList.all fun t => Nat.blt t n)) then
      (I (withY G nx (roundY nx ⟨E, n, ps.toList, asn, body⟩ dA dB)) f ti (VV.a (.one (.yld nx)) :: caps.map VV.b) ((nx, .rcd false ⟨E, n, ps.toList, asn, body⟩) :: H) (nx + 1)).andThen fun r =>
        (match r.1.get nx with
         | some (.rcd false _) => .ret ⟨.norm, E, noKey nx (preH r.1 H) ++ H, r.2⟩
         | some (.rdn q) => .ret ⟨q.xt, E, noKey nx (preH r.1 H) ++ H, r.2⟩
         | _ => .fail)
    else .fail
  | _, _ => .fail
def GoodI (P : Program) (I : Iter) : Prop := ∀ (L : List (Nat × RecD)) (G : Caller) (f : FuncId) (t : AT) (args : List VV) (H : Hp) (nx : Nat) (r : Hp × Nat), GoodG P L G → Inv L H → PT.Ends (I G f t args H nx) r →
  nx ≤ r.2 ∧ ∃ u M, r.1 = u ++ H ∧ NoRec u ∧ r.2 ≤ M ∧ ∀ {A : Nat → Prop} {φ : Ph} {H1 : Hp} {w : World} {vals : List Value}, Sub H H1 → All2 (fun x v => RelV φ A x v) args vals → RepH A φ H1 w → Fresh A nx M →
    Ret P f vals.toArray w (fun _ w' => ∃ A' φ', Stp A φ H1 w A' φ' (u ++ H1) w' ∧ ∀ j, A' j → A j ∨ (nx ≤ j ∧ j < r.2))

section
variable {P : Program} {n : Nat}
theorem at_putPs {φ : Ph} {A : Nat → Prop} : ∀ {ps : List Nat} {args : List VV} {vals : List Value} {E : VEnv} {tmps : Array Value}, All2 (fun x v => RelV φ A x v) args vals → args.length = ps.length → (ps.all fun t => Nat.blt t n) = true → AtV n [] φ A E { tmps := tmps, defers := [] } →
    AtV n [] φ A (putPs E ps args) { tmps := (ps.zip vals).foldl (fun tmps (x : Nat × Value) => tmps.setIfInBounds x.1 x.2) tmps, defers := [] } := by
  intro ps
  induction ps with
  | nil =>
    intro args vals E tmps h hl _ hA
    cases args with
    | nil => exact hA
    | cons _ _ => cases hl
  | cons p ps ih =>
    intro args vals E tmps h hl hb hA
    cases args with
    | nil => cases hl
    | cons v args =>
      cases vals with
      | nil => cases h
      | cons u vals =>
        simp only [List.all_cons, Bool.and_eq_true] at hb
        have := hA.put (dst := some p) (by simpa [dstOk] using hb.1) h.1
        exact ih h.2 (by simpa using hl) hb.2 this
theorem rec_here {A : Nat → Prop} {φ : Ph} {H : Hp} {w : World} {j g : Nat} {bz : Bool} {R : RecD} (hH : RepH A φ H w) (hj : H.get j = some (.rcd bz R)) (hg : (φ j).addr = some ⟨g, 0, none⟩) :
    ∃ r : Loop, w.heap[g]? = some (.loop r) ∧ r.state = (bif bz then .busy else .ready) ∧ r.pending = none ∧ r.params.toList = R.ps ∧ r.assign = R.asn ∧ r.body = R.body ∧ r.tmps.size = R.n ∧ ∀ t v, VEnv.get R.E t = some v → ∃ u, r.tmps[t]? = some u ∧ RelV φ A v u := by
  obtain ⟨g', r, e, h⟩ := hH.obj j _ hj
  rw [hg] at e
  cases e
  exact ⟨r, h⟩
/-- the record of a loop, turned -/
theorem rec_turn {A : Nat → Prop} {φ : Ph} {H : Hp} {w : World} {j g : Nat} {bz : Bool} {R : RecD} {ob : Obj} {r' : Loop} (hH : RepH A φ H w) (hj : H.get j = some (.rcd bz R)) (hg : (φ j).addr = some ⟨g, 0, none⟩)
    (ho : ∀ w' : World, w'.heap[g]? = some (.loop r') → ∀ N', RepO φ A N' w' (φ j) ob) : Stp A φ H w A φ ([(j, ob)] ++ H) (w.putObj g (.loop r')) := by
  obtain ⟨r, hr, _⟩ := rec_here hH hj hg
  have hlt : g < w.heap.size := (Array.getElem?_eq_some_iff.1 hr).1
  refine Stp.turn hH hj rfl (fun k hk hne => World.putObj_heap_other (hne _ hg)) ((putObj_ext w g _).mono fun k hk => ?_) fun N' _ => ho _ (World.putObj_heap_same hlt) N'
  rw [show k = g from hk]
  exact MB.of hj rfl hg
theorem Stp.drop {A A' : Nat → Prop} {φ φ' : Ph} {H H' H2 : Hp} {w w' : World} (h : Stp A φ H w A' φ' H' w') (hs : Sub H2 H') : Stp A φ H w A' φ' H2 w' ∧ ∀ k, MB φ' H2 k → MB φ' H' k := by
  have hmb : ∀ k, MB φ' H2 k → MB φ' H' k := fun k ⟨j, o, ad, h1, h2, h3, h4⟩ => ⟨j, o, ad, hs j o h1, h2, h3, h4⟩
  exact ⟨⟨⟨fun j o hj => h.rep.dom j o (hs j o hj), fun j o hj => (h.rep.obj j o (hs j o hj)).subN hmb, fun j j' o o' ad ad' hne hj hj' => h.rep.sep j j' o o' ad ad' hne (hs j o hj) (hs j' o' hj')⟩, h.agree, h.ext, fun k hk => h.mb k (hmb k hk)⟩, hmb⟩
theorem noRec_get {u H : Hp} {j : Nat} {bz : Bool} {R : RecD} (hn : NoRec u) (h : Hp.get (u ++ H) j = some (.rcd bz R)) : u.get j = none ∧ H.get j = some (.rcd bz R) := by
  rw [Hp.get_app] at h
  cases hu : u.get j with
  | none => rw [hu] at h; exact ⟨rfl, h⟩
  | some x =>
    rw [hu] at h; cases h
    have := hn _ (hp_mem hu)
    cases this
theorem rd_sub {H H1 : Hp} (h : ∀ j ∈ keysH H, H1.get j = H.get j) : Sub H H1 := fun j o hj => (h j (keys_in hj)).trans hj
  where keys_in {H : Hp} {j : Nat} {o : Obj} (hj : H.get j = some o) : j ∈ keysH H := List.mem_map.2 ⟨_, hp_mem hj, rfl⟩

/-- A round does what its code says. -/
theorem goodG_round {L : List (Nat × RecD)} {G : Caller} {jr : Nat} {R : RecD} {dA dB : VEnv → Hp → Nat → PT Rs} {aA aB : List Nat} (hG : GoodG P L G) (hR : R.n = n) (hps : (R.ps.all fun t => Nat.blt t n) = true)
    (hA : ∀ E H nx s, Inv L H → PT.Ends (dA E H nx) s → SndR P n (some jr) R.asn E H nx aA s) (hB : ∀ E H nx s, Inv L H → PT.Ends (dB E H nx) s → SndR P n (some jr) R.body E H nx aB s) (hne : ∀ p ∈ L, p.1 ≠ jr) :
    GoodG P ((jr, R) :: L) (withY G jr (roundY jr R dA dB)) := by
  refine ⟨fun f args H nx r h => hG.fn f args H nx r h, fun j args H nx r h hI => ?_⟩
  have hIL : Inv L H := fun p hp => hI p (List.mem_cons_of_mem _ hp)
  unfold withY at h
  cases hj : Nat.beq j jr with
  | false => simp only [hj, cond_false] at h; exact hG.yld j args H nx r h hIL
  | true =>
    simp only [hj, cond_true] at h
    have hj := Nat.eq_of_beq_eq_true hj
    subst hj
    unfold roundY at h
    cases hl : Nat.beq args.length R.ps.length with
    | false => rw [hl] at h; exact h.elim
    | true =>
      rw [hl] at h
      have hl := Nat.eq_of_beq_eq_true hl
      simp only [cond_true] at h
      split at h
      · rename_i R0 hg0
        have hR0 : H.get j = some (.rcd false R) := by
          obtain ⟨o, h1, h2⟩ := hI (j, R) (List.mem_cons_self ..)
          have h1 : H.get j = some o := h1
          rw [hg0] at h1; cases h1
          obtain ⟨bz, h3⟩ := h2 rfl
          cases h3; exact hg0
        obtain ⟨s1, e1, h⟩ := PT.ends_then.1 h
        split at h
        · rename_i R1 hx1 hg1
          obtain ⟨u1, M1, hu1, snd1⟩ := hA _ _ _ _ hIL e1
          obtain ⟨s, e2, h⟩ := PT.ends_then.1 h
          have hI1 : Inv L ((j, .rcd true R) :: s1.H) := by
            have := hIL.app snd1.norec
            rw [← hu1] at this
            exact this.lay hne
          obtain ⟨u2, M2, hu2, snd2⟩ := hB _ _ _ _ hI1 e2
          split at h
          · rename_i R2 hg2
            have hr : roundOut j (noKey j (preH s.H H)) (keysH H) s.nx s.x = r := h
            have hrnx : r.nx = s.nx := by rw [← hr]; cases s.x <;> rfl
            have hrrd : r.rd = keysH H := by rw [← hr]; cases s.x <;> rfl
            have hpre : preH s.H H = u2 ++ ((j, .rcd true R) :: u1) := by
              rw [hu2, hu1, show u2 ++ (j, Obj.rcd true R) :: (u1 ++ H) = (u2 ++ (j, Obj.rcd true R) :: u1) ++ H by simp]
              exact preH_app _ _
            rw [hpre] at hr
            have hle1 := snd1.le
            have hle2 := snd2.le
            refine ⟨by rw [hrnx]; omega, max M1 M2, by rw [hrnx]; exact Nat.le_trans snd2.leM (Nat.le_max_right _ _), fun A φ H1 w vals g hargs hH hrd hf hAj hgj => ?_⟩
            rw [hrrd] at hrd
            have hsub := rd_sub hrd
            obtain ⟨r0, hheap, hst, hpd, hpps, hpa, hpb, hpn, hpE⟩ := rec_here hH (hsub j _ hR0) hgj
            have hvl : vals.length = r0.params.size := by rw [← hargs.length, hl, ← hpps]; simp
            refine ⟨r0, hheap, hvl, fun rr => ?_⟩
            refine roundIn_of_wpIn (F := FW rr) (n := 0) trivial ?_
            rw [hpa, hpb]
            have hat : AtV n [] φ A (putPs R.E R.ps args) { tmps := (r0.params.zip vals.toArray).foldl (fun tmps (x : Nat × Value) => tmps.setIfInBounds x.1 x.2) r0.tmps, defers := [] } := by
              have h0 : AtV n [] φ A R.E { tmps := r0.tmps, defers := [] } := ⟨by rw [← hR]; exact hpn, rfl, hpE⟩
              have h1 := at_putPs hargs hl hps h0
              have hz : r0.params.zip vals.toArray = (R.ps.zip vals).toArray := by rw [← hpps]; apply Array.ext'; simp
              rw [hz, List.foldl_toArray]
              exact h1
            refine snd1.wp (r := some g) hsub hat hH (hf.before (Nat.le_max_left _ _)) ⟨hAj, hgj⟩ fun a1 w1 ⟨A1, φ1, ms1, k1, km1, k2, k3⟩ => ?_
            rw [hx1]
            have hg1' : Hp.get (u1 ++ H1) j = some (.rcd false R) := by
              have h0 : Hp.get (u1 ++ H) j = some (.rcd false R1) := by rw [← hu1]; exact hg1
              obtain ⟨h3, h4⟩ := noRec_get snd1.norec h0
              rw [Hp.get_app, h3]; exact hsub j _ hR0
            have hgj1 : (φ1 j).addr = some ⟨g, 0, none⟩ := by rw [(k2.agree j hAj).1]; exact hgj
            obtain ⟨r1, hheap1, hst1, hpd1, hp1, ha1, hb1, hn1, hE1⟩ := rec_here k2.rep hg1' hgj1
            have t1 := rec_turn (ob := .rcd true R) (r' := { r1 with state := .busy }) k2.rep hg1' hgj1 fun w' hw N' => ⟨g, _, hgj1, hw, rfl, hpd1, hp1, ha1, hb1, hn1, hE1⟩
            refine ⟨_, run_beginRound hheap1 hst1, ?_⟩
            have hsub2 : Sub ((j, Obj.rcd true R) :: s1.H) ([(j, Obj.rcd true R)] ++ (u1 ++ H1)) := by
              rw [hu1]
              exact Sub.app (Sub.app hsub u1) [(j, Obj.rcd true R)]
            refine snd2.wp (r := some g) hsub2 k1 t1.rep ((hf.after k3 hle1).before (Nat.le_max_right _ _)) ⟨(k2.agree j hAj).2, hgj1⟩ fun a2 w3 ⟨A2, φ2, ms2, m1, mm, m2, m3⟩ => ?_
            have hg2' : Hp.get (u2 ++ ([(j, Obj.rcd true R)] ++ (u1 ++ H1))) j = some (.rcd true R) := by
              have h0 : Hp.get (u2 ++ ((j, Obj.rcd true R) :: s1.H)) j = some (.rcd true R2) := by rw [← hu2]; exact hg2
              obtain ⟨h3, _⟩ := noRec_get snd2.norec h0
              rw [Hp.get_app, h3]; exact get_self _ _ _
            have hgj2 : (φ2 j).addr = some ⟨g, 0, none⟩ := by rw [(m2.agree j (k2.agree j hAj).2).1]; exact hgj1
            obtain ⟨r2, hheap2, hst2, hpd2, hp2, ha2, hb2, hn2, hE2⟩ := rec_here m2.rep hg2' hgj2
            have honly : ∀ q, A2 q → A q ∨ (nx ≤ q ∧ q < r.nx) := fun q hq => by
              rw [hrnx]
              rcases m3 q hq with h | h
              · rcases k3 q h with h | h
                · exact .inl h
                · exact .inr ⟨h.1, by omega⟩
              · exact .inr ⟨by omega, h.2⟩
            have hst3 := (k2.trans t1).trans m2
            -- the heap behind it
            have cong : ∀ (ob : Obj) (q : Nat), q ≠ j → Hp.get (noKey j (u2 ++ (j, Obj.rcd true R) :: u1) ++ H1) q = Hp.get ([(j, ob)] ++ (u2 ++ ([(j, Obj.rcd true R)] ++ (u1 ++ H1)))) q := fun ob q hq => by
              have e3 : [(j, ob)] ++ (u2 ++ ([(j, Obj.rcd true R)] ++ (u1 ++ H1))) = (j, ob) :: ((u2 ++ (j, Obj.rcd true R) :: u1) ++ H1) := by simp
              rw [e3, get_ne _ _ (Ne.symm hq), Hp.get_app, Hp.get_app, noKey_ne _ hq]
            have out : ∀ (q : Jump), s.x = q.xt → r = roundOut j (noKey j (u2 ++ ((j, .rcd true R) :: u1))) (keysH H) s.nx q.xt → ∃ v w', (Instr.endRound g (some q.code)).run P w3 = .ok v w' ∧ ∃ v', Ending.returned v = Ending.returned v' ∧ ∃ A' φ', RelV φ' A' r.v v' ∧ Stp A φ H1 w A' φ' (r.u ++ H1) w' ∧ ∀ j, A' j → A j ∨ (nx ≤ j ∧ j < r.nx) := fun q _ hrq => by
              have t2 := rec_turn (ob := .rdn q) (r' := { r2 with state := if (some q.code).isNone then .ready else .done, pending := some q.code }) m2.rep hg2' hgj2 fun w' hw N' => ⟨g, _, hgj2, hw, rfl, rfl⟩
              refine ⟨_, _, run_endRound _ hheap2, _, rfl, A2, φ2, ?_, ?_, honly⟩
              · rw [hrq]; cases q <;> rfl
              · have hu : r.u = (j, .rdn q) :: noKey j (u2 ++ (j, Obj.rcd true R) :: u1) := by rw [hrq]; cases q <;> rfl
                rw [hu]
                refine (hst3.trans t2).congr (fun _ => rfl) fun i => ?_
                by_cases hij : i = j
                · subst hij
                  rw [List.cons_append, get_self, List.singleton_append, get_self]
                · rw [List.cons_append, get_ne _ _ (Ne.symm hij)]; exact cong _ i hij
            cases hxx : s.x with
            | norm =>
              rw [hxx] at hr
              have t2 := rec_turn (ob := .rcd false R) (r' := { r2 with state := if (none : Option Code).isNone then .ready else .done, pending := none }) m2.rep hg2' hgj2 fun w' hw N' => ⟨g, _, hgj2, hw, rfl, rfl, hp2, ha2, hb2, hn2, hE2⟩
              refine ⟨_, _, run_endRound none hheap2, _, rfl, A2, φ2, ?_, ?_, honly⟩
              · rw [← hr]; rfl
              · have hu : r.u = noKey j (u2 ++ (j, Obj.rcd true R) :: u1) := by rw [← hr]; rfl
                rw [hu]
                refine (hst3.trans t2).congr (fun _ => rfl) fun i => ?_
                by_cases hij : i = j
                · subst hij
                  rw [Hp.get_app, noKey_self, List.singleton_append, get_self]; exact hsub i _ hR0
                · exact cong _ i hij
            | ret => rw [hxx] at hr; exact out .ret hxx hr.symm
            | ext i => rw [hxx] at hr; exact out (.ext i) hxx hr.symm
          · exact h.elim
        · exact h.elim
      · exact h.elim
end
end Go.Sat
end
section
namespace Go.Sat
open Go

section
variable {P : Program} {n : Nat}
/-- where a loop over a function begins -/
theorem enter_spec {rj r : Option Nat} {A : Nat → Prop} {φ : Ph} {H H1 : Hp} {w : World} (hsub : Sub H H1) (hH : RepH A φ H1 w) (hok : roundOk rj H = true) (hR : RoundAt r rj φ A) (fn : FuncId) (tmps : Array Value) (ps : Array Tmp) (asn body : Code) :
    ∃ l ms w1 d, (Instr.enterLoop fn tmps ps asn body (FW r).round).run P w = .ok (l, List.map markOf ms) w1 ∧ Grow w w1 ∧ w1.heap[l]? = some (.loop { state := .ready, pending := none, fn, tmps, params := ps, assign := asn, body, defers := d }) ∧ w.heap.size ≤ l ∧ ms.Nodup ∧
      ∀ m ∈ ms, w.heap.size ≤ m ∧ m ≠ l ∧ w1.heap[m]? = some (.deferred (some [])) := by
  cases r with
  | none =>
    obtain ⟨W1, hW1⟩ : ∃ W1, w.alloc (.deferred (some [])) = W1 := ⟨_, rfl⟩
    have hG1 : Grow w W1 := by rw [← hW1]; exact Grow.push w _
    have hD : W1.heap[w.heap.size]? = some (.deferred (some [])) := by rw [← hW1]; exact World.alloc_heap_new w _
    have hsz : W1.heap.size = w.heap.size + 1 := by rw [← hW1]; simp
    have hG2 : Grow W1 (W1.alloc (.loop { state := .ready, pending := none, fn, tmps, params := ps, assign := asn, body, defers := w.heap.size })) := Grow.push _ _
    have hL := World.alloc_heap_new W1 (.loop { state := .ready, pending := none, fn, tmps, params := ps, assign := asn, body, defers := w.heap.size })
    rw [hsz] at hL
    refine ⟨w.heap.size + 1, [w.heap.size], _, w.heap.size, by rw [show (FW none).round = none from rfl, run_enterLoop_outer, hW1]; rfl, hG1.trans hG2, hL, by omega, by simp, fun m hm => ?_⟩
    rw [List.mem_singleton.1 hm]
    exact ⟨Nat.le_refl _, by omega, (hG2.same _ (by omega) id).trans hD⟩
  | some l0 =>
    cases rj with
    | none => exact hR.elim
    | some j =>
      obtain ⟨hAj, hg⟩ := hR
      unfold roundOk at hok
      simp only at hok
      split at hok
      · rename_i bz R hj
        obtain ⟨r0, hr0, _⟩ := rec_here hH (hsub j _ hj) hg
        refine ⟨w.heap.size, [], w.alloc (.loop { state := .ready, pending := none, fn, tmps, params := ps, assign := asn, body, defers := r0.defers }), r0.defers, ?_, Grow.push w _, World.alloc_heap_new w _, Nat.le_refl _, List.nodup_nil, fun m hm => (by cases hm)⟩
        show (Instr.enterLoop fn tmps ps asn body (some l0)).run P w = _
        unfold Instr.enterLoop
        simp only [Sem.run_bind, run_getLoop hr0, run_newObj_alloc, Result.andThen, Sem.run_pure]
        rfl
      · cases hok
theorem range_snd {I : Iter} {rj : Option Nat} {G : Caller} {t : AT} {g : Operand} {ps : Array Tmp} {asn body : Code} {dA dB : VEnv → Hp → Nat → PT Rs} {E : VEnv} {H : Hp} {nx : Nat} {s : Rs} {L : List (Nat × RecD)} {aA aB : List Nat} (hG : GoodG P L G) (hI : GoodI P I) (hL : Inv L H)
    (hA : ∀ E H nx' s, Inv L H → PT.Ends (dA E H nx') s → SndR P n (some nx) asn E H nx' aA s) (hB : ∀ E H nx' s, Inv L H → PT.Ends (dB E H nx') s → SndR P n (some nx) body E H nx' aB s)
    (h : PT.Ends (rangeV P n I rj G t g ps asn body dA dB E H nx) s) : SndR P n rj (.rangeFunc g ps asn body) E H nx [] s := by
  unfold rangeV at h
  split at h
  · rename_i f caps ti ta tb ev
    cases hb : (H.get nx).isNone && (okCall P f && (roundOk rj H && ps.toList.all fun t => Nat.blt t n)) with
    | false => rw [hb] at h; exact h.elim
    | true =>
      rw [hb] at h
      simp only [Bool.and_eq_true] at hb
      obtain ⟨hb1, hb2, hb3, hb4⟩ := hb
      have hnone : H.get nx = none := by simpa using hb1
      simp only [cond_true] at h
      obtain ⟨R, hRd⟩ : ∃ R : RecD, (⟨E, n, ps.toList, asn, body⟩ : RecD) = R := ⟨_, rfl⟩
      rw [hRd] at h
      obtain ⟨r, h1, h2⟩ := PT.ends_then.1 h
      have hG' : GoodG P ((nx, R) :: L) (withY G nx (roundY nx R dA dB)) := goodG_round hG (by rw [← hRd]) (by rw [← hRd]; exact hb4) (by rw [← hRd]; exact hA) (by rw [← hRd]; exact hB) (hL.ne hnone)
      have hL' : Inv ((nx, R) :: L) ((nx, .rcd false R) :: H) := fun p hp => by
        rcases List.mem_cons.1 hp with rfl | hp
        · exact ⟨_, get_self _ _ _, fun _ => ⟨_, rfl⟩⟩
        · exact hL.lay (hL.ne hnone) p hp
      obtain ⟨hle, u, M, hu, hnr, hM, hrun⟩ := hI _ _ _ _ _ _ _ _ hG' hL' h1
      have hpre : noKey nx (preH r.1 H) = noKey nx u := by
        have : r.1 = (u ++ [(nx, Obj.rcd false R)]) ++ H := by rw [hu]; simp
        rw [this, preH_app]
        unfold noKey
        rw [List.filter_append]
        simp
      have hs : ∃ x, s = ⟨x, E, noKey nx u ++ H, r.2⟩ ∧ ((x = .norm ∧ ∃ R', r.1.get nx = some (.rcd false R')) ∨ ∃ q, x = q.xt ∧ r.1.get nx = some (.rdn q)) := by
        rw [hpre] at h2
        split at h2
        · rename_i R' hg'; exact ⟨.norm, h2.symm, .inl ⟨rfl, R', hg'⟩⟩
        · rename_i q hg'; exact ⟨q.xt, h2.symm, .inr ⟨q, rfl, hg'⟩⟩
        · exact h2.elim
      obtain ⟨x, rfl, hx⟩ := hs
      refine ⟨noKey nx u, M, rfl, Nat.le_trans (Nat.le_succ _) hle, hM, fun _ _ => rfl, fun p hp => hnr p (noKey_sub hp).1, fun {ro ds Q H1 A φ a w} hsub hAt hH hf hRo hk => ?_⟩
      have hnA : ¬ A nx := hf nx (Nat.le_refl _) (by have := hM; omega)
      refine wpIn_rangeFunc (F := FW ro) (n := 0) fun fn _ => ?_
      obtain ⟨l, ms, w1, d, he, hGr, hLo, hll, hnd, hms⟩ := enter_spec (P := P) hsub hH hb3 hRo fn a.tmps ps asn body
      -- the function ranged over
      obtain ⟨us, hev, hus⟩ : ∃ us : List Value, a.eval g = .func (.func f) #[] us.toArray ∧ All2 (fun x v => RelB φ A x v) caps us := by
        have := hAt.or g _ ev
        rw [actEnv_ev] at this
        obtain ⟨vs, us, e, k1, k2⟩ := this
        cases vs with
        | nil => exact ⟨us, e, k2⟩
        | cons _ _ => cases k1
      refine ⟨l, List.map markOf ms, w1, { target := .fn (.func f) us.toArray, args := #[.func (.yield l) #[] #[]] }, w1, f, #[.func (.yield l) #[] #[]] ++ us.toArray, w1, he, ?_, fun _ _ => trivial, ?_, fun h => by simp [FW] at h, ?_⟩
      · have hy : a.eval (.const (.func (.yield l) #[] #[])) = .func (.yield l) #[] #[] := rfl
        simp [resolve, hev, hy, Deferred.ofValue]
      · have := pureRun_run (callFunc_ok (args := #[.func (.yield l) #[] #[]] ++ us.toArray) hb2) w1
        simpa [invoke] using this
      · have hst0 : Stp A φ H1 w (plus A nx) (upd φ nx (newBs l)) ([(nx, .rcd false R)] ++ H1) w1 := Stp.new hH hnA hGr (fun ad ha => by cases ha; exact hll) fun N' _ => by
          refine ⟨l, _, rfl, hLo, rfl, rfl, by rw [← hRd], by rw [← hRd], by rw [← hRd], by rw [← hRd]; exact hAt.size, fun t v ht => ?_⟩
          rw [← hRd] at ht
          obtain ⟨u, k1, k2⟩ := hAt.slot t v ht
          exact ⟨u, k1, k2.up (agree_upd hnA)⟩
        have hga : (upd φ nx (newBs l) nx).addr = some ⟨l, 0, none⟩ := by rw [upd_same]; rfl
        have hmk0 : MarksAt w.heap.size ms (upd φ nx (newBs l)) ([(nx, .rcd false R)] ++ H1) w1 := ⟨hnd, fun m hm => by
          obtain ⟨p1, p2, p3⟩ := hms m hm
          refine ⟨p1, p3, fun ⟨j, o, ad, q1, q2, q3, q4⟩ => ?_⟩
          by_cases hj : j = nx
          · subst hj
            rw [hga] at q3; cases q3
            exact p2 q4.symm
          · rw [List.singleton_append, get_ne _ _ (Ne.symm hj)] at q1
            rw [upd_ne _ _ hj] at q3
            have := (hH.obj j o q1).low q2 q3
            omega⟩
        have hargs : All2 (fun x v => RelV (upd φ nx (newBs l)) (plus A nx) x v) (VV.a (.one (.yld nx)) :: caps.map VV.b) (Value.func (.yield l) #[] #[] :: us) := by
          refine ⟨⟨.inr rfl, l, hga, rfl⟩, All2.map_b (hus.mono fun _ _ => RelB.up (agree_upd hnA))⟩
        have hfr1 : Fresh (plus A nx) (nx + 1) M := fun j j1 j2 hj => hj.elim (hf j (by omega) j2) fun e => by omega
        have hret := hrun (Sub.app hsub [(nx, Obj.rcd false R)]) hargs hst0.rep hfr1
        rw [show #[Value.func (.yield l) #[] #[]] ++ us.toArray = (Value.func (.yield l) #[] #[] :: us).toArray by simp]
        refine (callsIn_FW ro).2 (Calls.mono hret ?_)
        rintro e w3 ⟨v, rfl, A3, φ3, hst3, honly⟩
        have hga3 : (φ3 nx).addr = some ⟨l, 0, none⟩ := by rw [(hst3.agree nx (.inr rfl)).1]; exact hga
        have hget : ∀ o, r.1.get nx = some o → Hp.get (u ++ ([(nx, Obj.rcd false R)] ++ H1)) nx = some o := fun o ho => by
          rw [hu] at ho
          exact Sub.app (Sub.app hsub [(nx, Obj.rcd false R)]) u nx o ho
        -- the end
        have fin : ∀ (r3 : Loop), w3.heap[l]? = some (.loop r3) → (∃ ob, Hp.get (u ++ ([(nx, Obj.rcd false R)] ++ H1)) nx = some ob ∧ ob.mut = true) →
            ComesM n ds A φ H1 w E (noKey nx u ++ H1) nx r.2 { a with defers := List.map markOf ms ++ a.defers } (w3.putObj l (.loop { r3 with state := .exhausted })) := fun r3 hr3 ⟨ob, hob, hmut⟩ => by
          have hlt : l < w3.heap.size := (Array.getElem?_eq_some_iff.1 hr3).1
          have t3 : Stp A3 φ3 (u ++ ([(nx, Obj.rcd false R)] ++ H1)) w3 A3 φ3 ([(nx, .dead)] ++ (u ++ ([(nx, Obj.rcd false R)] ++ H1))) (w3.putObj l (.loop { r3 with state := .exhausted })) :=
            Stp.turn hst3.rep hob hmut (fun k hk hne => World.putObj_heap_other (hne _ hga3)) ((putObj_ext w3 l _).mono fun k hk => by rw [show k = l from hk]; exact MB.of hob hmut hga3) fun N' _ => trivial
          have hall := (hst0.trans hst3).trans t3
          obtain ⟨hdrop, hmb⟩ := hall.drop (H2 := noKey nx u ++ H1) fun j o hj => by
            have hjn : j ≠ nx := fun e => by
              subst e
              rw [Hp.get_app, noKey_self] at hj
              exact hnA (hH.dom _ _ hj)
            rw [Hp.get_app, noKey_ne _ hjn] at hj
            rw [List.singleton_append, get_ne _ _ (Ne.symm hjn), Hp.get_app, List.singleton_append, get_ne _ _ (Ne.symm hjn)]
            exact hj
          refine ⟨A3, φ3, ms, ⟨hAt.size, by show _ ++ a.defers = _; rw [hAt.defers], fun t v ht => ?_⟩, ((hmk0.stp hst3).stp t3).sub hmb, hdrop, fun j hj => ?_⟩
          · obtain ⟨u', k1, k2⟩ := hAt.slot t v ht
            exact ⟨u', k1, k2.up hall.agree⟩
          · rcases honly j hj with (h | h) | h
            · exact .inl h
            · exact .inr ⟨by omega, by omega⟩
            · exact .inr ⟨by omega, h.2⟩
        rcases hx with ⟨rfl, R', hg'⟩ | ⟨q, rfl, hg'⟩
        · obtain ⟨r3, hr3, hst, hpd, _⟩ := rec_here hst3.rep (hget _ hg') hga3
          refine ⟨none, _, by rw [← hpd]; exact run_endLoop hr3 (by rw [hst]; simp), hk _ _ (fin r3 hr3 ⟨_, hget _ hg', rfl⟩)⟩
        · obtain ⟨g3, r3, e3, hr3, hst, hpd⟩ := hst3.rep.obj nx _ (hget _ hg')
          rw [hga3] at e3
          cases e3
          have hend := fin r3 hr3 ⟨_, hget _ hg', rfl⟩
          refine ⟨some q.code, _, by rw [← hpd]; exact run_endLoop hr3 (by rw [hst]; simp), ?_⟩
          cases q with
          | ret => exact wpIn_ret (hk _ _ hend)
          | ext i => exact wpIn_exit (hk _ _ hend)
  · exact h.elim
end
end Go.Sat
end
section
namespace Go.Sat
open Go

def AT.l : AT → AT
  | .node l _ => l
  | _ => .nil
def AT.r : AT → AT
  | .node _ r => r
  | _ => .nil
def dstsOf : List Oper → List Nat
  | [] => []
  | o :: r => (match o.dst with | some d => [d] | none => []) ++ dstsOf r
/-- without the outermost join -/
def AT.strip : AT → AT
  | .cut _ _ t => t
  | t => t
def AT.slots : AT → List Nat
  | .cut outs _ _ => slotsO outs
  | _ => []
/-- the slots that code may write -/
def asgC : Code → AT → List Nat
  | .region _ ops _, _ => dstsOf ops.toList
  | .seq a b, t => asgC a t.strip.l ++ asgC b t.strip.r ++ t.slots
  | .cond _ a b, t => asgC a t.strip.l ++ asgC b t.strip.r ++ t.slots
  | .block _ c, t => asgC c t.strip.l ++ t.slots
  | .loop c, t => (match t.strip with
    | .loop vars outs _ t' => (asgC c t' ++ slotsL vars) ++ slotsO outs
    | _ => []) ++ t.slots
  | .scope c, t => asgC c t
  | _, _ => []
def withCut (n : Nat) (asg : List Nat) (t : AT) (E : VEnv) (H : Hp) (nx : Nat) (m : PT Rs) : PT Rs :=
  match t with
  | .cut outs D _ => cutV n asg outs D E H nx m
  | _ => m
/-- what is known of a condition, once it has been asked -/
def refC (c : Operand) (E : VEnv) (b : Bool) : VEnv := match c with
  | .tmp t => E.put (some t) (VV.bool b)
  | _ => E
theorem refC_get {c : Operand} {E : VEnv} {b : Bool} (h : evV E c = some (VV.bool b)) (t : Nat) : (refC c E b).get t = E.get t := by
  cases c with
  | tmp d => exact VEnv.get_put_same h t
  | _ => rfl
/-- blocks that a region's rows of windows will hold: they are frozen ahead -/
def frzIds (ops : Array Oper) (E : VEnv) (H : Hp) : List Nat :=
  ops.toList.flatMap fun o => match o.op with
    | .buildSlice _ _ es => es.toList.flatMap fun e => (match e.2 with
      | .tmp t => ops.toList.flatMap fun o2 => (match o2.dst with
        | some d => bif Nat.beq d t then (match o2.op with
          | .slice _ (.tmp p) _ _ _ => (match E.get p with
            | some (.a (.one (.b (.ptr j 0 0 0)))) => (match H.get j with
              | some (.blk _ _) => [j]
              | _ => [])
            | _ => [])
          | _ => []) else []
        | none => [])
      | _ => [])
    | _ => []
theorem frzIds_blk {ops : Array Oper} {E : VEnv} {H : Hp} : ∀ j ∈ frzIds ops E H, ∃ T l, H.get j = some (.blk T l) := by
  intro j hj
  unfold frzIds at hj
  obtain ⟨o, _, hj⟩ := List.mem_flatMap.1 hj
  split at hj
  · obtain ⟨e, _, hj⟩ := List.mem_flatMap.1 hj
    split at hj
    · obtain ⟨o2, _, hj⟩ := List.mem_flatMap.1 hj
      split at hj
      · rename_i d _
        cases hb : Nat.beq d _ with
        | false => rw [hb] at hj; cases hj
        | true =>
          rw [hb, cond_true] at hj
          split at hj
          · split at hj
            · split at hj
              · rename_i hg
                rw [List.mem_singleton.1 hj]
                exact ⟨_, _, hg⟩
              · cases hj
            · cases hj
          · cases hj
      · cases hj
    · cases hj
  · cases hj
def preF (ops : Array Oper) (E : VEnv) (H : Hp) : Hp := freeze H (frzIds ops E H)
theorem freeze_sub {H H1 : Hp} (hs : Sub H H1) : ∀ {ids : List Nat}, (∀ j ∈ ids, ∃ T l, H.get j = some (.blk T l)) → freeze H1 ids = freeze H ids := by
  intro ids
  induction ids with
  | nil => intro _; rfl
  | cons j js ih =>
    intro h
    obtain ⟨T, l, hg⟩ := h j (List.mem_cons_self ..)
    unfold freeze
    rw [hg, hs j _ hg, ih fun i hi => h i (List.mem_cons_of_mem _ hi)]
theorem Stp.frz {A : Nat → Prop} {φ : Ph} {H1 : Hp} {w : World} {ids : List Nat} (h : RepH A φ H1 w) (hnb : ∀ j ∈ ids, ∃ T l, H1.get j = some (.blk T l)) : Stp A φ H1 w A φ (freeze H1 ids ++ H1) w := by
  have get : ∀ j o, Hp.get (freeze H1 ids ++ H1) j = some o → (∃ o0, H1.get j = some o0 ∧ Sat.frz o0 = some o) ∨ (j ∉ ids ∧ H1.get j = some o) := by
    intro j o hj
    rw [Hp.get_app] at hj
    cases hf : Hp.get (freeze H1 ids) j with
    | some o' =>
      rw [hf] at hj; cases hj
      obtain ⟨o0, _, h1, h2⟩ := freeze_get hf
      exact .inl ⟨o0, h1, h2⟩
    | none =>
      rw [hf] at hj
      refine .inr ⟨fun hin => ?_, hj⟩
      obtain ⟨T, l, hg⟩ := hnb j hin
      rw [freeze_some hin hg (o' := .fblk T l) rfl] at hf; cases hf
  have live : ∀ j o, Hp.get (freeze H1 ids ++ H1) j = some o → o.mut = true → j ∉ ids ∧ H1.get j = some o := by
    intro j o hj hm
    rcases get j o hj with ⟨o0, _, hf⟩ | h1
    · rw [(frz_mut hf).2] at hm; cases hm
    · exact h1
  have mb : ∀ k, MB φ (freeze H1 ids ++ H1) k → MB φ H1 k := fun k ⟨j, o, ad, h1, h2, h3, h4⟩ => ⟨j, o, ad, (live j o h1 h2).2, h2, h3, h4⟩
  have kp : Kept (MB φ H1) (MB φ (freeze H1 ids ++ H1)) w w := ⟨Nat.le_refl _, fun k _ hn => ⟨rfl, fun h => hn (mb k h)⟩⟩
  refine ⟨⟨fun j o hj => ?_, fun j o hj => ?_, fun j j' o o' ad ad' hne hj hj' hm hm' ha ha' => h.sep j j' o o' ad ad' hne (live j o hj hm).2 (live j' o' hj' hm').2 hm hm' ha ha'⟩, .refl _ _, Ext.refl _ _, fun k hk => .inl (mb k hk)⟩
  · rcases get j o hj with ⟨o0, h1, _⟩ | ⟨_, h1⟩
    · exact h.dom j o0 h1
    · exact h.dom j o h1
  · rcases get j o hj with ⟨o0, h1, hf⟩ | ⟨_, h1⟩
    · refine frz_rep hf (h.obj j o0 h1) (.refl _ _) kp (fun _ _ => rfl) fun ad ha hN => ?_
      obtain ⟨j2, o2, ad2, g1, g2, g3, g4⟩ := hN
      have hne : j2 ≠ j := by
        rintro rfl
        rcases get j2 o2 g1 with ⟨_, _, hf2⟩ | ⟨_, hg2⟩
        · rw [(frz_mut hf2).2] at g2; cases g2
        · rw [hj] at g1; cases g1
          rw [(frz_mut hf).2] at g2; cases g2
      exact h.sep j2 j o2 o0 ad2 ad hne (live j2 o2 g1 g2).2 h1 g2 (frz_mut hf).1 g3 ha g4
    · exact (h.obj j o h1).kept (.refl _ _) kp fun _ _ _ => rfl
noncomputable def den (P : Program) (n : Nat) (I : Iter) : Code → Option Nat → Caller → AT → VEnv → Hp → Nat → PT Rs
  | .skip, _, _, _, E, H, nx => .ret ⟨.norm, E, H, nx⟩
  | .label _, _, _, _, E, H, nx => .ret ⟨.norm, E, H, nx⟩
  | .exit id, _, _, _, E, H, nx => .ret ⟨.ext id, E, H, nx⟩
  | .ret, _, _, _, E, H, nx => .ret ⟨.ret, E, H, nx⟩
  | .region _ ops draw, _, G, _, E, H, nx => bif draw then
      (bif drawOk n ops then (runD P G n ops ops.toList E (preF ops E H ++ H) nx).andThen fun (E', H', nx', es) => bif noConf ops es && (esOk es && noRecB (preH H' H)) then .ret ⟨.norm, E', H', nx'⟩ else .fail else .fail)
      else (runOps P G n ops ops.toList E H nx).andThen fun (E', H', nx') => .ret ⟨.norm, E', H', nx'⟩
  | .seq a b, rj, G, t, E, H, nx => withCut n (asgC a t.strip.l ++ asgC b t.strip.r) t E H nx ((den P n I a rj G t.strip.l E H nx).andThen fun s => match s.x with
      | .norm => den P n I b rj G t.strip.r s.E s.H s.nx
      | _ => .ret s)
  | .cond c a b, rj, G, t, E, H, nx => withCut n (asgC a t.strip.l ++ asgC b t.strip.r) t E H nx (match evV E c with
      | some (.a (.one (.b (.bool v)))) => .ite v (den P n I a rj G t.strip.l (refC c E true) H nx) (den P n I b rj G t.strip.r (refC c E false) H nx)
      | _ => .fail)
  | .block id c, rj, G, t, E, H, nx => withCut n (asgC c t.strip.l) t E H nx ((den P n I c rj G t.strip.l E H nx).andThen fun s => match s.x with
      | .ext i => .ret ⟨bif Nat.beq i id then .norm else .ext i, s.E, s.H, s.nx⟩
      | _ => .ret s)
  | .loop c, rj, G, t, E, H, nx => withCut n (match t.strip with | .loop vars outs _ t' => (asgC c t' ++ slotsL vars) ++ slotsO outs | _ => []) t E H nx (match t.strip with
      | .loop vars outs D t' => loopV n (asgC c t' ++ slotsL vars) vars outs D E H nx fun E H nx => den P n I c rj G t' E H nx
      | _ => .fail)
  | .rangeFunc g ps asn body, rj, G, t, E, H, nx => rangeV P n I rj G t g ps asn body (fun E H nx' => den P n I asn (some nx) G t.ra E H nx') (fun E H nx' => den P n I body (some nx) G t.rb E H nx') E H nx
  | .scope c, rj, G, t, E, H, nx => den P n I c rj G t E H nx
  | _, _, _, _, _, _, _ => .fail

theorem stepR_scope {P : Program} {b : Frame} {a : Act} {k : List Go.Item} {cs : List Frame} {w : World} {c : Code} : step P (lone (b.atR a (.code (.scope c) :: k)) cs w) = .next (lone (b.atR a (.code c :: .inScope c :: k)) cs w) :=
  step_lone_go (by simp [stepG, stepG.exec, Frame.atR])
theorem stepR_inScope {P : Program} {b : Frame} {a : Act} {k : List Go.Item} {cs : List Frame} {w : World} {c : Code} : step P (lone (b.atR a (.inScope c :: k)) cs w) = .next (lone (b.atR a k) cs w) :=
  step_lone_go (by simp [stepG, stepG.exec, Frame.atR])
theorem wpIn_scope {F : Fence} {n : Nat} {P : Program} {c : Code} {Q : Exit → Act → World → Prop} {a : Act} {w : World} (h : c.wpIn F n P (Exit.noGoto Q) a w) : (Code.scope c).wpIn F n P Q a w := by
  intro b k cs hro hb hr
  have h0 : (lone (b.atR a (.code (.scope c) :: k)) cs w).fenced P F := fenced_calm hb hr rfl
  obtain ⟨e, a₁, w₁, hq, harr⟩ := h b (.inScope c :: k) cs hro hb hr
  cases e with
  | normal => exact ⟨.normal, a₁, w₁, hq, StepsIn.trans (.head h0 stepR_scope harr) (.one (fenced_calm (fr := b.atR a₁ (.inScope c :: k)) hb hr rfl) stepR_inScope)⟩
  | exit id => exact ⟨.exit id, a₁, w₁, hq, fun k' hk => .head h0 stepR_scope (harr.1 k' (by simp [exitTo, hk])), fun hs hk => let ⟨k₁, h1, h2⟩ := harr.2 hs (by simp [exitTo, hk]); ⟨k₁, h1, .head h0 stepR_scope h2⟩⟩
  | goto l => exact hq.elim
  | ret => exact ⟨_, a₁, w₁, hq, .of_steps (.one h0 stepR_scope) harr⟩
  | panic ch => exact ⟨_, a₁, w₁, hq, .of_steps (.one h0 stepR_scope) harr⟩
  | outgrown => exact ⟨_, a₁, w₁, hq, .of_steps (.one h0 stepR_scope) harr⟩

section
variable {P : Program} {G : Caller} {n : Nat} {rj : Option Nat}
theorem mem_dsts : ∀ {l : List Oper} {o : Oper} {d : Nat}, o ∈ l → o.dst = some d → d ∈ dstsOf l := by
  intro l
  induction l with
  | nil => intro o d h; cases h
  | cons o' l ih =>
    intro o d h hd
    unfold dstsOf
    rcases List.mem_cons.1 h with rfl | h
    · rw [hd]; exact List.mem_append_left _ (List.mem_singleton.2 rfl)
    · exact List.mem_append_right _ (ih h hd)
theorem VEnv.get_putN {E : VEnv} {dst : Option Tmp} {v : VV} {t : Nat} (h : dst ≠ some t) : (E.put dst v).get t = E.get t := by
  cases dst with
  | none => rfl
  | some d => rw [VEnv.get_put, if_neg fun e => h (congrArg some e)]
theorem runOps_keep {ops : Array Oper} : ∀ {l : List Oper} {E E' : VEnv} {H H' : Hp} {nx nx' : Nat}, PT.Ends (runOps P G n ops l E H nx) (E', H', nx') → ∀ t, t ∉ dstsOf l → E'.get t = E.get t := by
  intro l
  induction l with
  | nil => intro E E' H H' nx nx' h t _; cases h; rfl
  | cons o l ih =>
    intro E E' H H' nx nx' h t ht
    have h1 : o.dst ≠ some t := fun e => ht (mem_dsts (List.mem_cons_self ..) e)
    have h2 : t ∉ dstsOf l := fun e => ht (by unfold dstsOf; exact List.mem_append_right _ e)
    unfold runOps at h
    cases hc : dstOk n o.dst && !isDefer o.op with
    | false => rw [hc] at h; exact h.elim
    | true =>
      rw [hc] at h
      simp only [cond_true] at h
      split at h
      · rename_i b hb
        have yes : ∀ E1 : VEnv, (∀ t, E1.get t = E.get t) → PT.Ends ((stepY P G E1 H nx o).andThen fun s => bif rdOk H s.rd && noRecB s.u then runOps P G n ops l (E1.put o.dst s.v) (s.u ++ H) s.nx else .fail) (E', H', nx') → E'.get t = E.get t := by
          intro E1 hE1 h
          obtain ⟨s, _, h4⟩ := PT.ends_then.1 h
          cases hrd : rdOk H s.rd && noRecB s.u with
          | false => rw [hrd] at h4; exact h4.elim
          | true => rw [hrd] at h4; exact ((ih h4 t h2).trans (VEnv.get_putN h1)).trans (hE1 t)
        cases hgd : isGuard o with
        | false => rw [hgd] at h; exact yes E (fun _ => rfl) h
        | true =>
          rw [hgd] at h
          rcases h with ⟨hb1, h⟩ | ⟨hb1, h⟩
          · exact yes _ (fun t => refE_get (hb.trans (congrArg some hb1)) t) h
          · exact ((ih h t h2).trans (VEnv.get_putN h1)).trans (refE_get (hb.trans (congrArg some hb1)) t)
      · exact h.elim
theorem ChainL.keep {ops : Array Oper} {l : List Oper} {E E' : VEnv} {H H' : Hp} {nx nx' : Nat} {es : List CE} (h : ChainL P n ops l E H nx es E' H' nx') : ∀ t, t ∉ dstsOf l → E'.get t = E.get t := by
  induction h with
  | nil => intro t _; rfl
  | @cons o r c es Es E' H' nx' h0 hc ho h ih =>
    intro t ht
    have h1 : o.dst ≠ some t := fun e => ht (mem_dsts (List.mem_cons_self ..) e)
    exact ((ih t fun e => ht (by unfold dstsOf; exact List.mem_append_right _ e)).trans (VEnv.get_putN h1)).trans (h0 t)
theorem SndR.more {c : Code} {E : VEnv} {H : Hp} {nx : Nat} {asg asg' : List Nat} {s : Rs} (h : SndR P n rj c E H nx asg s) (hm : ∀ t, t ∈ asg → t ∈ asg') : SndR P n rj c E H nx asg' s :=
  let ⟨u, M, h1, h2⟩ := h; ⟨u, M, h1, h2.le, h2.leM, fun t ht => h2.keep t fun e => ht (hm t e), h2.norec, h2.wp⟩
theorem SndR.env {c : Code} {E E1 : VEnv} {H : Hp} {nx : Nat} {asg : List Nat} {s : Rs} (h : SndR P n rj c E1 H nx asg s) (he : ∀ t, E1.get t = E.get t) : SndR P n rj c E H nx asg s :=
  let ⟨u, M, h1, h2⟩ := h; ⟨u, M, h1, h2.le, h2.leM, fun t ht => (h2.keep t ht).trans (he t), h2.norec, fun hs hA hH hf hR hk => h2.wp hs (hA.congr he) hH hf hR hk⟩
theorem withCut_snd {c : Code} {asg : List Nat} {t : AT} {E : VEnv} {H : Hp} {nx : Nat} {m : PT Rs} {s : Rs} (hm : ∀ s, PT.Ends m s → SndR P n rj c E H nx asg s) (h : PT.Ends (withCut n asg t E H nx m) s) : SndR P n rj c E H nx (asg ++ t.slots) s := by
  unfold withCut at h
  split at h
  · exact cutV_snd hm h
  · exact (hm s h).more fun t ht => List.mem_append_left _ ht
theorem den_sound {I : Iter} (hm : P.follows .mixedOrders = true) (hIt : GoodI P I) : ∀ {c : Code} {rj : Option Nat} {L : List (Nat × RecD)} {G : Caller} {t : AT} {E : VEnv} {H : Hp} {nx : Nat} {s : Rs}, GoodG P L G → Inv L H → PT.Ends (den P n I c rj G t E H nx) s → SndR P n rj c E H nx (asgC c t) s := by
  have stay : ∀ {c : Code} {rj : Option Nat} {E : VEnv} {H : Hp} {nx : Nat} {x : XT} {asg : List Nat}, (∀ {r : Option Nat} {Q : Exit → Act → World → Prop} {a : Act} {w : World}, Q x.exit a w → c.wpIn (FW r) 0 P Q a w) → SndR P n rj c E H nx asg ⟨x, E, H, nx⟩ := fun hw =>
    ⟨[], _, rfl, Nat.le_refl _, Nat.le_refl _, fun _ _ => rfl, fun p hp => (by cases hp), fun hs hA hH hf hR hk => hw (hk _ _ ⟨_, _, [], hA, .nil, Stp.refl hH, fun _ h => .inl h⟩)⟩
  intro c
  induction c with
  | skip => intro rj L G t E H nx s _ _ h; cases h; exact stay wpIn_skip
  | label l => intro rj L G t E H nx s _ _ h; cases h; exact stay wpIn_label
  | exit id => intro rj L G t E H nx s _ _ h; cases h; exact stay wpIn_exit
  | ret => intro rj L G t E H nx s _ _ h; cases h; exact stay wpIn_ret
  | region id ops draw =>
    intro rj L G t E H nx s hG hI h
    unfold den at h
    cases draw with
    | false =>
      obtain ⟨⟨E', H', nx'⟩, h1, h2⟩ := PT.ends_then.1 h
      cases h2
      obtain ⟨hle, u, M, hu, hnr, hM, hr⟩ := runOps_spec (n := n) hG h1 hI
      exact ⟨u, M, hu, hle, hM, fun t ht => runOps_keep h1 t ht, hnr, fun hs hA hH hf hR hk => wpIn_region_list (hr hs hA hH hf fun a' w' hc => hk a' w' (.of hc))⟩
    | true =>
      simp only [cond_true] at h
      cases hd : drawOk n ops with
      | false => rw [hd] at h; exact h.elim
      | true =>
        rw [hd] at h
        obtain ⟨⟨E', H', nx', es⟩, h1, h2⟩ := PT.ends_then.1 h
        simp only at h2
        cases hb : noConf ops es && (esOk es && noRecB (preH H' H)) with
        | false => rw [hb] at h2; exact h2.elim
        | true =>
          rw [hb] at h2
          cases h2
          simp only [Bool.and_eq_true] at hb
          obtain ⟨hb1, hb2, hb3⟩ := hb
          have hch := runD_chain hG.fn h1
          obtain ⟨u, hu, hsub⟩ := hch.sub hb2
          have hu2 : H' = (u ++ preF ops E H) ++ H := by rw [hu, List.append_assoc]
          rw [hu2, preH_app] at hb3
          refine ⟨u ++ preF ops E H, nx', hu2, hch.nx_le.1, Nat.le_refl _, fun t ht => hch.keep t ht, noRecB_spec hb3, fun hs hA hH hf hR hk => ?_⟩
          obtain ⟨es1, k1, k2⟩ := hsub _ (hs.app (preF ops E H))
          have hst := Stp.frz hH (ids := frzIds ops E H) fun j hj => let ⟨T, l, hg⟩ := frzIds_blk j hj; ⟨T, l, hs j _ hg⟩
          rw [freeze_sub hs frzIds_blk] at hst
          exact wpIn_draw hm hd k1 ((noConf_congr k2).trans hb1) hA hst.rep hf fun a' w' hc => hk a' w' (by
            rw [List.append_assoc]
            exact .of (hc.trans hst (fun _ h => .inl h) (Nat.le_refl _) hch.nx_le.1))
  | seq a b iha ihb =>
    intro rj L G t E H nx s hG hI h
    unfold den at h
    refine withCut_snd (t := t) (fun s h => ?_) h
    obtain ⟨s1, h1, h2⟩ := PT.ends_then.1 h
    obtain ⟨u1, M1, hu1, hs1⟩ := iha hG hI h1
    cases hx : s1.x with
    | norm =>
      rw [hx] at h2
      have hI1 : Inv L s1.H := by rw [hu1]; exact hI.app hs1.norec
      obtain ⟨u2, M2, hu2, hs2⟩ := ihb hG hI1 h2
      refine ⟨u2 ++ u1, max M1 M2, by rw [hu2, hu1, List.append_assoc], Nat.le_trans hs1.le hs2.le, Nat.le_trans hs2.leM (Nat.le_max_right _ _), fun t ht => ?_, hs2.norec.app hs1.norec, fun {r ds Q H1 A φ a w} hs hA hH hf hR hk => ?_⟩
      · exact (hs2.keep t fun e => ht (List.mem_append_right _ e)).trans (hs1.keep t fun e => ht (List.mem_append_left _ e))
      · refine wpIn_seq (hs1.wp hs hA hH (hf.before (Nat.le_max_left _ _)) hR fun a' w' ⟨A1, φ1, ms, k1, km, k2, k3⟩ => ?_)
        rw [hx]
        show b.wpIn (FW r) 0 P Q a' w'
        have hs2' := hs2
        rw [hu1] at hs2'
        refine hs2'.wp (hs.app u1) k1 k2.rep ((hf.after k3 hs1.le).before (Nat.le_max_right _ _)) (hR.up k2.agree) fun a2 w2 hc => hk a2 w2 ?_
        rw [List.append_assoc]
        exact ComesM.trans k2 km k3 hs1.le hs2.le hc
    | ext i =>
      rw [hx] at h2; cases h2
      refine ⟨u1, M1, hu1, hs1.le, hs1.leM, fun t ht => hs1.keep t fun e => ht (List.mem_append_left _ e), hs1.norec, fun hs hA hH hf hR hk => wpIn_seq (hs1.wp hs hA hH hf hR fun a' w' hc => ?_)⟩
      have := hk a' w' hc
      rw [hx] at this ⊢; exact this
    | ret =>
      rw [hx] at h2; cases h2
      refine ⟨u1, M1, hu1, hs1.le, hs1.leM, fun t ht => hs1.keep t fun e => ht (List.mem_append_left _ e), hs1.norec, fun hs hA hH hf hR hk => wpIn_seq (hs1.wp hs hA hH hf hR fun a' w' hc => ?_)⟩
      have := hk a' w' hc
      rw [hx] at this ⊢; exact this
  | cond c a b iha ihb =>
    intro rj L G t E H nx s hG hI h
    unfold den at h
    refine withCut_snd (t := t) (fun s h => ?_) h
    split at h
    · rename_i v hv
      have hev : ∀ {ds : List Deferred} {A : Nat → Prop} {φ : Ph} {x : Act}, AtV n ds φ A E x → x.eval c = .bool v := fun hA => by
        have := hA.or c _ hv
        rw [actEnv_ev] at this
        exact this
      rcases h with ⟨rfl, h⟩ | ⟨rfl, h⟩
      · obtain ⟨u, M, hu, hs1⟩ := (iha hG hI h).env fun t => refC_get hv t
        exact ⟨u, M, hu, hs1.le, hs1.leM, fun t ht => hs1.keep t fun e => ht (List.mem_append_left _ e), hs1.norec, fun hs hA hH hf hR hk => wpIn_cond_true (hev hA) (hs1.wp hs hA hH hf hR hk)⟩
      · obtain ⟨u, M, hu, hs1⟩ := (ihb hG hI h).env fun t => refC_get hv t
        exact ⟨u, M, hu, hs1.le, hs1.leM, fun t ht => hs1.keep t fun e => ht (List.mem_append_right _ e), hs1.norec, fun hs hA hH hf hR hk => wpIn_cond_false (hev hA) (hs1.wp hs hA hH hf hR hk)⟩
    · exact h.elim
  | block id c ih =>
    intro rj L G t E H nx s hG hI h
    unfold den at h
    refine withCut_snd (t := t) (fun s h => ?_) h
    obtain ⟨s1, h1, h2⟩ := PT.ends_then.1 h
    obtain ⟨u1, M1, hu1, hs1⟩ := ih hG hI h1
    cases hx : s1.x with
    | norm =>
      rw [hx] at h2; cases h2
      refine ⟨u1, M1, hu1, hs1.le, hs1.leM, hs1.keep, hs1.norec, fun hs hA hH hf hR hk => wpIn_block (hs1.wp hs hA hH hf hR fun a' w' hc => ?_)⟩
      have := hk a' w' hc
      rw [hx] at this ⊢; exact this
    | ret =>
      rw [hx] at h2; cases h2
      refine ⟨u1, M1, hu1, hs1.le, hs1.leM, hs1.keep, hs1.norec, fun hs hA hH hf hR hk => wpIn_block (hs1.wp hs hA hH hf hR fun a' w' hc => ?_)⟩
      have := hk a' w' hc
      rw [hx] at this ⊢; exact this
    | ext i =>
      rw [hx] at h2; cases h2
      refine ⟨u1, M1, hu1, hs1.le, hs1.leM, hs1.keep, hs1.norec, fun hs hA hH hf hR hk => wpIn_block (hs1.wp hs hA hH hf hR fun a' w' hc => ?_)⟩
      have := hk a' w' hc
      rw [hx]
      simp only [XT.exit, Exit.inBlock]
      simp only at this
      cases hb : Nat.beq i id with
      | true =>
        rw [hb] at this
        rw [if_pos (Nat.eq_of_beq_eq_true hb)]; exact this
      | false =>
        rw [hb] at this
        rw [if_neg fun e => by subst e; simp at hb]; exact this
  | loop c ih =>
    intro rj L G t E H nx s hG hI h
    unfold den at h
    unfold asgC
    refine withCut_snd (t := t) (fun s h => ?_) h
    split at h
    · exact loopV_snd (asg0 := asgC c _) (fun E u nx s hn h => ih hG (hI.app hn) h) (fun t ht => ⟨fun e => ht (List.mem_append_left _ e), fun e => ht (List.mem_append_right _ e)⟩) h
    · exact h.elim
  | rangeFunc f ps x y ihx ihy =>
    intro rj L G t E H nx s hG hI h
    unfold den at h
    exact range_snd hG hIt hI (fun E H nx' s hI h => ihx hG hI h) (fun E H nx' s hI h => ihy hG hI h) h
  | scope c ih =>
    intro rj L G t E H nx s hG hI h
    unfold den at h
    obtain ⟨u, M, hu, hs⟩ := ih hG hI h
    refine ⟨u, M, hu, hs.le, hs.leM, hs.keep, hs.norec, fun hsb hA hH hf hR hk => wpIn_scope (hs.wp hsb hA hH hf hR fun a' w' hc => ?_)⟩
    have := hk a' w' hc
    cases hx : s.x with
    | norm => rw [hx] at this; exact this
    | ret => rw [hx] at this; exact this
    | ext i => rw [hx] at this; exact this
  | goto l => intro rj L G t E H nx s _ _ h; exact h.elim
  | refuse why => intro rj L G t E H nx s _ _ h; exact h.elim
end
end Go.Sat
end
section
namespace Go.Sat
open Go

/-- values under their numbers -/
def numbered : Nat → List VV → VEnv
  | _, [] => []
  | k, v :: r => (k, v) :: numbered (k + 1) r
theorem numbered_get : ∀ {l : List VV} {k t : Nat} {x : VV}, (numbered k l).get t = some x → k ≤ t ∧ l[t - k]? = some x := by
  intro l
  induction l with
  | nil => intro k t x h; cases h
  | cons v l ih =>
    intro k t x h
    unfold numbered at h
    by_cases e : k = t
    · subst e
      simp only [VEnv.get, Nat.beq_refl, cond_true, Option.some.injEq] at h
      subst h
      simp
    · simp only [VEnv.get, nbeq e, cond_false] at h
      obtain ⟨h1, h2⟩ := ih h
      refine ⟨by omega, ?_⟩
      rw [show t - k = (t - (k + 1)) + 1 by omega, List.getElem?_cons_succ]; exact h2
/-- a result that is a variable's value -/
def resCell (P : Program) (T : TypeId) (H : Hp) : Option VV → Option VV
  | some (.a (.one (.b (.ptr j 0 0 0)))) => match blkOf (H.get j) with
    | some l => (match l with
      | [.one s] => bif oneT P T then some (.a (.one s)) else bif aggT P T && Nat.beq (P.cellsOf T) 1 then some (.a (.agg l)) else none
      | l => bif aggT P T && Nat.beq (P.cellsOf T) (segsN l) then some (.a (.agg l)) else none)
    | _ => none
  | _ => none
/-- the results, as a frame of their own -/
def resEnv (P : Program) : Nat → List ResultVar → VEnv → Hp → Option VEnv
  | _, [], _, _ => some []
  | k, .tmp t :: r, E, H => match resEnv P (k + 1) r E H with
    | some E1 => (match E.get t with | some v => some ((k, v) :: E1) | none => some E1)
    | none => none
  | k, .cell t T :: r, E, H => match resEnv P (k + 1) r E H with
    | some E1 => (match resCell P T H (E.get t) with | some v => some ((k, v) :: E1) | none => none)
    | none => none
structure FnSpec where
  nargs : Nat
  ps : List Item
  rs : List Item
  nres : Nat
  fn : St ps → Option (St rs)
/-- the state in which a function begins -/
def begL (l : List Item) (x : St l) : List (Nat × VV) × Hp × Nat := instL id l x 0
def FnOk (P : Program) (f : FuncId) (s : FnSpec) : Prop := ∀ x y, s.fn x = some y → ∃ M, (begL s.ps x).2.2 ≤ M ∧ ∀ (A : Nat → Prop) (φ : Ph) (H1 : Hp) (w : World) (vals : List Value),
  Sub (begL s.ps x).2.1 H1 → RepH A φ H1 w → (∀ t v, VEnv.get (begL s.ps x).1 t = some v → ∃ val, vals[t]? = some val ∧ RelV φ A v val) → vals.length = s.nargs → Fresh A (begL s.ps x).2.2 M →
  Ret P f vals.toArray w (fun v w' => ∃ A1 φ1 u E1 d vs, Stp A φ H1 w A1 φ1 (u ++ H1) w' ∧ (∀ j ∈ keysH (u ++ (begL s.ps x).2.1), j < M) ∧ v = packed vs ∧ List.length vs = s.nres ∧ (∀ t x, VEnv.get E1 t = some x → RelV φ1 A1 x (vs.getD t undef)) ∧
    decL E1 (u ++ (begL s.ps x).2.1) s.rs = some d ∧ d.x = y ∧ (d.cm ++ d.cf).Nodup ∧ ∀ j ∈ d.cm ++ d.cf, j < M)
/-- what a function hands back, read off where its code ends -/
def outF (P : Program) (rs : List Item) (res : List ResultVar) (s : Rs) : Option (St rs) :=
  match resEnv P 0 res s.E s.H with
  | some E1 => (match decL E1 s.H rs with
    | some d => bif nodupB (d.cm ++ d.cf) && ((d.cm ++ d.cf).all (fun j => Nat.blt j s.nx) && (keysH s.H).all (fun j => Nat.blt j s.nx)) then some d.x else none
    | none => none)
  | none => none
noncomputable def denF (P : Program) (I : Iter) (G : Caller) (n : Nat) (c : Code) (t : AT) (ps rs : List Item) (res : List ResultVar) (x : St ps) : PT (St rs) :=
  match begL ps x with
  | (e0, u0, n0) => (den P n I c none G t e0 u0 n0).andThen fun s => match s.x with
    | .ext _ => .fail
    | _ => PT.opt (outF P rs res s)

/-! ### marks, taken away -/
structure Hush (ms : List Nat) (w w' : World) : Prop where
  os : w'.os = w.os
  tape : w'.tape = w.tape
  output : w'.output = w.output
  size : w'.heap.size = w.heap.size
  same : ∀ k, k ∉ ms → w'.heap[k]? = w.heap[k]?
section
variable {ms : List Nat} {w w' : World}
theorem Row.hush (hh : Hush ms w w') (hd : ∀ d ∈ ms, w.heap[d]? = some (.deferred (some []))) {a : Option Addr} {cs : List Value} (h : Row w a cs) : Row w' a cs := fun j v hj => by
  obtain ⟨ad, e, hc⟩ := h j v hj
  refine ⟨ad, e, ?_⟩
  by_cases hm : (ad.add j).block ∈ ms
  · unfold World.cell? at hc
    rw [hd _ hm] at hc
    cases hc
  · exact (World.cell?_of_block (hh.same _ hm)).trans hc
theorem RepD.hush (hh : Hush ms w w') (hd : ∀ d ∈ ms, w.heap[d]? = some (.deferred (some []))) {N : Nat → Prop} {t : Ty} {cs : List Value} {x : t.den} (h : RepD N w t cs x) : RepD N w' t cs x := by
  induction t generalizing cs with
  | pr a b iha ihb =>
    obtain ⟨c1, c2, e, h1, h2⟩ := h
    exact ⟨c1, c2, e, iha h1, ihb h2⟩
  | sl t ih =>
    obtain ⟨a, c, e, h1, h2, h3, css, h4, h5⟩ := h
    exact ⟨a, c, e, h1, h2, fun ad ha hp => ⟨by rw [hh.size]; exact (h3 ad ha hp).1, (h3 ad ha hp).2⟩, css, h4.mono fun _ _ h => ih h, h5.hush hh hd⟩
  | _ => exact h
theorem RepO.hush (hh : Hush ms w w') (hd : ∀ d ∈ ms, w.heap[d]? = some (.deferred (some []))) {φ : Ph} {A N : Nat → Prop} {b : Bs} {o : Obj} (hm : o.mut = true → ∀ ad, b.addr = some ad → ad.block ∉ ms) (h : RepO φ A N w b o) : RepO φ A N w' b o := by
  have hs : o.mut = true → ∀ ad, b.addr = some ad → w'.heap[ad.block]? = w.heap[ad.block]? := fun h1 ad ha => hh.same _ (hm h1 ad ha)
  cases o with
  | blk T l => obtain ⟨g, cs, h1, h2, h3⟩ := h; exact ⟨g, cs, h1, h2.same (hs rfl _ h1), h3⟩
  | own t e l full =>
    obtain ⟨css, h1, h2, h3, h4, h5, h6⟩ := h
    exact ⟨css, h1.mono fun _ _ h => RepD.hush hh hd h, own_same h2 (hs rfl), h3, h4, h5, h6.same (hs rfl)⟩
  | ro t l =>
    obtain ⟨css, h1, h2, h3, h4, h5, h6⟩ := h
    exact ⟨css, h1.mono fun _ _ h => RepD.hush hh hd h, h2.hush hh hd, h3, h4, h5, fun ad ha hp => ⟨by rw [hh.size]; exact (h6 ad ha hp).1, (h6 ad ha hp).2⟩⟩
  | dead => trivial
  | hid c => obtain ⟨ad, h1, h2⟩ := h; exact ⟨ad, h1, (hs rfl ad h1).trans h2⟩
  | rcd bz R => obtain ⟨g, r, h1, h2, h3⟩ := h; exact ⟨g, r, h1, (hs rfl _ h1).trans h2, h3⟩
  | rdn q => obtain ⟨g, r, h1, h2, h3⟩ := h; exact ⟨g, r, h1, (hs rfl _ h1).trans h2, h3⟩
  | fblk T l =>
    obtain ⟨g, cs, h1, h2, h3, h4⟩ := h
    refine ⟨g, cs, h1, h2.same (hh.same _ fun hin => ?_), h3, h4⟩
    have h5 : w.heap[g]? = some (.cells cs.toArray T (0, 0)) := h2
    rw [hd _ hin] at h5
    cases h5
theorem Stp.hush {A A' : Nat → Prop} {φ φ' : Ph} {H H' : Hp} {w0 : World} (h : Stp A φ H w0 A' φ' H' w) (hm : MarksAt w0.heap.size ms φ' H' w) (hh : Hush ms w w') : Stp A φ H w0 A' φ' H' w' := by
  have hd : ∀ d ∈ ms, w.heap[d]? = some (.deferred (some [])) := fun d hd => (hm.2 d hd).2.1
  refine ⟨⟨h.rep.dom, fun j o hj => (h.rep.obj j o hj).hush hh hd fun hmu ad ha hin => (hm.2 _ hin).2.2 ⟨j, o, ad, hj, hmu, ha, rfl⟩, h.rep.sep⟩, h.agree, ⟨hh.os.trans h.ext.os, hh.tape.trans h.ext.tape, hh.output.trans h.ext.output, by rw [hh.size]; exact h.ext.size, fun k hk hn => ?_⟩, h.mb⟩
  exact (hh.same k fun hin => by have := (hm.2 k hin).1; omega).trans (h.ext.same k hk hn)
end
/-- a function's end: the marks go, then there are its results -/
theorem leaves_marks {P : Program} {fn : Func} {tmps : Array Value} {R : Ending → World → Prop} : ∀ {ms : List Nat} {w : World}, ms.Nodup → (∀ d ∈ ms, w.heap[d]? = some (.deferred (some []))) → (∀ w', Hush ms w w' → ∃ v, (results fn tmps).run P w' = .ok v w' ∧ R (.returned v) w') →
    LeavesInM (FW none) 0 P fn tmps R (List.map markOf ms) .returning w := by
  intro ms
  induction ms with
  | nil => intro w _ _ h; exact h w ⟨rfl, rfl, rfl, rfl, fun _ _ => rfl⟩
  | cons d ms ih =>
    intro w hn hd h
    have hdd := hd d (List.mem_cons_self ..)
    have hlt : d < w.heap.size := (Array.getElem?_eq_some_iff.1 hdd).1
    refine ⟨by simp, .inl ⟨d, _, rfl, run_takeDeferred hdd, ih (List.nodup_cons.1 hn).2 (fun k hk => ?_) fun w' hw => h w' ?_⟩⟩
    · have hne : k ≠ d := fun e => (List.nodup_cons.1 hn).1 (e ▸ hk)
      rw [World.putObj_heap_other hne]; exact hd k (List.mem_cons_of_mem _ hk)
    · refine ⟨hw.os, hw.tape, hw.output, by rw [hw.size]; simp, fun k hk => ?_⟩
      rw [hw.same k fun h => hk (List.mem_cons_of_mem _ h), World.putObj_heap_other fun e => hk (by rw [e]; exact List.mem_cons_self ..)]
/-- iterators, nested so deep -/
noncomputable def iter (P : Program) : Nat → Iter
  | 0 => fun _ _ _ _ _ _ => .fail
  | k + 1 => fun G f t args H nx => match P.funcs[f]? with
    | some fn => (match fn.body with
      | some c => bif fn.results.isEmpty && Nat.ble args.length fn.ntmps then
          (den P fn.ntmps (iter P k) c none G t (numbered 0 args) H nx).andThen fun s => (match s.x with | .ext _ => .fail | _ => .ret (s.H, s.nx))
        else .fail
      | none => .fail)
    | none => .fail
theorem all2_get {φ : Ph} {A : Nat → Prop} {args : List VV} {vals : List Value} (h : All2 (fun x v => RelV φ A x v) args vals) {t : Nat} {x : VV} (ht : (numbered 0 args).get t = some x) : ∃ v, vals[t]? = some v ∧ RelV φ A x v := by
  obtain ⟨_, h2⟩ := numbered_get ht
  exact h.getl (by simpa using h2)
section
variable {P : Program} {G : Caller} {n : Nat}
def ResIs (P : Program) (w : World) (tmps : Array Value) (v : Value) : ResultVar → Prop
  | .tmp t => v = tmps.getD t undef
  | .cell p t => ∃ ad, tmps.getD p undef = .pointer (some ad) ∧ (loadVar t ad).run P w = .ok v w
theorem results_run {fn : Func} {tmps : Array Value} {w : World} {vs : List Value} (hl : fn.results.toList.length = vs.length) (h : ∀ (i : Nat) rv v, fn.results.toList[i]? = some rv → vs[i]? = some v → ResIs P w tmps v rv) : (results fn tmps).run P w = .ok (packed vs) w := by
  have h1 := run_mapM_list (P := P) (w := w) (fun x : ResultVar => (match x with | .tmp t => pure (tmps.getD t undef) | .cell p t => do loadVar t (← asAddr (tmps.getD p undef)) : Sem Value)) fn.results.toList vs (fun i x y hx hy => by
    have := h i x y hx hy
    cases x with
    | tmp t => rw [show y = _ from this]; rfl
    | cell p t =>
      obtain ⟨ad, e1, e2⟩ := this
      simp [e1, asAddr, e2]) hl
  have h2 : (fn.results.mapM (fun x : ResultVar => (match x with | .tmp t => pure (tmps.getD t undef) | .cell p t => do loadVar t (← asAddr (tmps.getD p undef)) : Sem Value))).run P w = .ok vs.toArray w := by
    rw [Array.mapM_eq_mapM_toList, map_eq_pure_bind, Sem.run_bind, h1]
    rfl
  unfold results
  refine (Sem.run_bind ..).trans ?_
  erw [h2]
  match vs with
  | [] => simp [packed]
  | [v] => simp [packed]
  | v :: u :: vs => simp [packed]
section
variable {A : Nat → Prop} {φ : Ph} {H H1 : Hp} {w : World} {a : Act} {ds : List Deferred}
theorem resCell_spec {E : VEnv} {T : TypeId} {p : Nat} {v : VV} (hA : AtV n ds φ A E a) (hH : RepH A φ H1 w) (hs : Sub H H1) (h : resCell P T H (E.get p) = some v) : ∃ x, ResIs P w a.tmps x (.cell p T) ∧ RelV φ A v x := by
  unfold resCell at h
  split at h
  · rename_i j hj
    obtain ⟨u, hu, hr⟩ := hA.slot p _ hj
    obtain ⟨hAj, ad, ha, rfl⟩ := hr
    split at h
    · rename_i l hg
      obtain ⟨g, T', cs, e, hB, hG⟩ : ∃ g T' cs, (φ j).addr = some ⟨g, 0, none⟩ ∧ Blk w g cs T' ∧ RelG φ A l cs := by
        unfold blkOf at hg
        split at hg
        · rename_i T' l' hg'; cases hg; obtain ⟨g, cs, e, hB, hG⟩ := hH.obj j _ (hs j _ hg'); exact ⟨g, T', cs, e, hB, hG⟩
        · rename_i T' l' hg'; cases hg; obtain ⟨g, cs, e, hB, hG, _⟩ := hH.obj j _ (hs j _ hg'); exact ⟨g, T', cs, e, hB, hG⟩
        · cases hg
      rw [ha] at e; cases e
      have htmp : a.tmps.getD p undef = .pointer (some ⟨g, 0, none⟩) := by
        simp only [Array.getD_eq_getD_getElem?, hu, Option.getD_some, Nat.zero_add, Nat.zero_mul, add_zero]
      have agg : ∀ {v : VV}, (bif aggT P T && Nat.beq (P.cellsOf T) (segsN l) then some (VV.a (.agg l)) else none) = some v → ∃ x, ResIs P w a.tmps x (.cell p T) ∧ RelV φ A v x := by
        intro v h
        cases hb : aggT P T && Nat.beq (P.cellsOf T) (segsN l) with
        | false => rw [hb] at h; cases h
        | true =>
          rw [hb] at h; cases h
          have hb' := Bool.and_eq_true_iff.1 hb
          exact ⟨.agg cs.toArray, ⟨_, htmp, blk_agg hB hb'.1 (by rw [hG.len, Nat.eq_of_beq_eq_true hb'.2])⟩, cs, rfl, hG⟩
      split at h
      · rename_i s
        cases ho : oneT P T with
        | true =>
          rw [ho] at h; cases h
          obtain ⟨c, cs', rfl, h1, _, h3⟩ := hG
          have : cs' = [] := h3
          subst this
          exact ⟨c, ⟨_, htmp, loadVar_one ho (by rw [hB.cell]; rfl)⟩, h1⟩
        | false => rw [ho] at h; exact agg h
      · exact agg h
    · cases h
  · cases h
theorem resEnv_spec {E : VEnv} (hA : AtV n ds φ A E a) (hH : RepH A φ H1 w) (hs : Sub H H1) : ∀ {res : List ResultVar} {k : Nat} {E1 : VEnv}, resEnv P k res E H = some E1 → ∃ vs : List Value, res.length = vs.length ∧ (∀ (i : Nat) rv v, res[i]? = some rv → vs[i]? = some v → ResIs P w a.tmps v rv) ∧
    ∀ t x, VEnv.get E1 t = some x → k ≤ t ∧ RelV φ A x (vs.getD (t - k) undef) := by
  intro res
  induction res with
  | nil => intro k E1 h; cases h; exact ⟨[], rfl, fun i rv v h => by simp at h, fun t x h => by cases h⟩
  | cons rv res ih =>
    intro k E1 h
    have key : ∀ {E2 : VEnv} {v : Option VV} {x : Value}, resEnv P (k + 1) res E H = some E2 → ResIs P w a.tmps x rv → (∀ u, v = some u → RelV φ A u x) → E1 = (match v with | some u => (k, u) :: E2 | none => E2) →
        ∃ vs : List Value, (rv :: res).length = vs.length ∧ (∀ (i : Nat) rv' v, (rv :: res)[i]? = some rv' → vs[i]? = some v → ResIs P w a.tmps v rv') ∧ ∀ t x, VEnv.get E1 t = some x → k ≤ t ∧ RelV φ A x (vs.getD (t - k) undef) := by
      intro E2 v x h2 hx hv he
      obtain ⟨vs, g1, g2, g3⟩ := ih h2
      refine ⟨x :: vs, by simp [g1], fun i rv' v hi hv => ?_, fun t y ht => ?_⟩
      · cases i with
        | zero => simp at hi hv; subst hi; subst hv; exact hx
        | succ i => exact g2 i rv' v (by simpa using hi) (by simpa using hv)
      · have rest : VEnv.get E2 t = some y → k ≤ t ∧ RelV φ A y ((x :: vs).getD (t - k) undef) := fun h => by
          obtain ⟨h3, h4⟩ := g3 t y h
          refine ⟨by omega, ?_⟩
          rw [show t - k = (t - (k + 1)) + 1 by omega]
          simpa using h4
        cases v with
        | none => subst he; exact rest ht
        | some u =>
          subst he
          by_cases e : k = t
          · subst e
            simp only [VEnv.get, Nat.beq_refl, cond_true, Option.some.injEq] at ht
            subst ht
            exact ⟨Nat.le_refl _, by simpa using hv u rfl⟩
          · simp only [VEnv.get, nbeq e, cond_false] at ht
            exact rest ht
    cases rv with
    | tmp t =>
      unfold resEnv at h
      split at h
      · rename_i E2 h2
        refine key (v := E.get t) (x := a.tmps.getD t undef) h2 rfl (fun u hu => ?_) ?_
        · obtain ⟨z, hz, hr⟩ := hA.slot t u hu
          simpa [Array.getD_eq_getD_getElem?, hz] using hr
        · split at h
          · cases h; rfl
          · cases h; rfl
      · cases h
    | cell t T =>
      unfold resEnv at h
      split at h
      · rename_i E2 h2
        split at h
        · rename_i v hv
          cases h
          obtain ⟨x, h3, h4⟩ := resCell_spec hA hH hs hv
          exact key (v := some v) h2 h3 (fun u hu => by cases hu; exact h4) rfl
        · cases h
      · cases h
end
theorem iter_good {P : Program} (hm : P.follows .mixedOrders = true) : ∀ k, GoodI P (iter P k) := by
  intro k
  induction k with
  | zero => intro L G f t args H nx r _ _ h; exact h.elim
  | succ k ih =>
    intro L G f t args H nx r hG hI h
    unfold iter at h
    split at h
    · rename_i fn hf
      split at h
      · rename_i c hb
        cases hc : fn.results.isEmpty && Nat.ble args.length fn.ntmps with
        | false => rw [hc] at h; exact h.elim
        | true =>
          rw [hc] at h
          simp only [Bool.and_eq_true] at hc
          obtain ⟨hc1, hc2⟩ := hc
          have hc2 := Nat.le_of_ble_eq_true hc2
          have hres : fn.results = #[] := Array.isEmpty_iff.1 hc1
          obtain ⟨s, h1, h2⟩ := PT.ends_then.1 h
          obtain ⟨u, M, hu, hs⟩ := den_sound hm ih hG hI h1
          have h3 : (s.x = .norm ∨ s.x = .ret) ∧ r = (s.H, s.nx) := by
            split at h2
            · exact h2.elim
            · rename_i hx
              refine ⟨?_, h2.symm⟩
              cases hxx : s.x with
              | norm => exact .inl rfl
              | ret => exact .inr rfl
              | ext i => exact absurd hxx (hx i)
          obtain ⟨hx, rfl⟩ := h3
          refine ⟨hs.le, u, M, hu, hs.norec, hs.leM, fun {A φ H1 w vals} hsub hargs hH hfr => ?_⟩
          refine (callsIn_FW (n := 0) none).1 (callsIn_of_wp_marks hf hb trivial ?_ rfl)
          refine hs.wp (r := none) hsub ⟨by simp [← hargs.length]; omega, rfl, fun t v ht => ?_⟩ hH hfr trivial fun a' w' ⟨A1, φ1, ms, k1, km, k2, k3⟩ => ?_
          · obtain ⟨val, g1, g2⟩ := all2_get hargs ht
            refine ⟨val, ?_, g2⟩
            have hlt : t < vals.length := (List.getElem?_eq_some_iff.1 g1).1
            rw [Array.getElem?_append_left (by simpa using hlt)]
            simpa using g1
          · have fin : LeavesInM (FW none) 0 P fn a'.tmps (fun e w' => ∃ v, e = .returned v ∧ ∃ A' φ', Stp A φ H1 w A' φ' (u ++ H1) w' ∧ ∀ j, A' j → A j ∨ (nx ≤ j ∧ j < s.nx)) a'.defers .returning w' := by
              rw [k1.defers, List.append_nil]
              refine leaves_marks km.1 (fun d hd => (km.2 d hd).2.1) fun w2 hh => ?_
              exact ⟨packed [], results_run (by simp [hres]) (fun i rv v hi _ => by rw [hres] at hi; cases hi), _, rfl, A1, φ1, k2.hush km hh, k3⟩
            rcases hx with hx | hx
            · rw [hx]; exact fin
            · rw [hx]; exact fin
      · exact h.elim
    · exact h.elim

/-- A function does what its code, read, says. -/
theorem fn_ok {I : Iter} (hm : P.follows .mixedOrders = true) (hIt : GoodI P I) (hG : GoodG P [] G) {f : FuncId} {fn : Func} {c : Code} {t : AT} {s : FnSpec} (hf : P.funcs[f]? = some fn) (hb : fn.body = some c) (hn : fn.ntmps = n) (hl : s.nargs ≤ n) (hr : fn.results.toList.length = s.nres)
    (he : ∀ x, s.fn x = PT.run (denF P I G n c t s.ps s.rs fn.results.toList x)) : FnOk P f s := by
  intro x y hy
  rw [he] at hy
  have hd := PT.ends_run.2 hy
  unfold denF at hd
  obtain ⟨e0, u0, n0, hbeg⟩ : ∃ e0 u0 n0, begL s.ps x = (e0, u0, n0) := ⟨_, _, _, rfl⟩
  simp only [hbeg] at hd ⊢
  obtain ⟨r, h1, h2⟩ := PT.ends_then.1 hd
  obtain ⟨u, M, hu, hs⟩ := den_sound hm hIt hG (fun p hp => (by cases hp)) h1
  have h3 : (r.x = .norm ∨ r.x = .ret) ∧ PT.Ends (PT.opt (outF P s.rs fn.results.toList r)) y := by
    split at h2
    · exact h2.elim
    · rename_i hx
      refine ⟨?_, h2⟩
      cases hxx : r.x with
      | norm => exact .inl rfl
      | ret => exact .inr rfl
      | ext i => exact absurd hxx (hx i)
  obtain ⟨hx, h3⟩ := h3
  have h4 := PT.ends_opt.1 h3
  unfold outF at h4
  split at h4
  · rename_i E1 hE1
    split at h4
    · rename_i d hdec
      cases hbb : nodupB (d.cm ++ d.cf) && ((d.cm ++ d.cf).all (fun j => Nat.blt j r.nx) && (keysH r.H).all (fun j => Nat.blt j r.nx)) with
      | false => rw [hbb] at h4; cases h4
      | true =>
        rw [hbb] at h4
        cases h4
        simp only [Bool.and_eq_true] at hbb
        obtain ⟨b1, b2, b3⟩ := hbb
        have lt : ∀ {l : List Nat}, l.all (fun j => Nat.blt j r.nx) = true → ∀ j ∈ l, j < M := fun h j hj => Nat.lt_of_lt_of_le (Nat.blt_eq ▸ List.all_eq_true.1 h j hj) hs.leM
        refine ⟨M, Nat.le_trans hs.le hs.leM, fun A φ H1 w vals hsub hH hvals hlen hfr => ?_⟩
        refine (callsIn_FW (n := 0) none).1 (callsIn_of_wp_marks hf hb trivial ?_ rfl)
        refine hs.wp (r := none) hsub ⟨by simp [hn]; omega, rfl, fun t v hv => ?_⟩ hH hfr trivial fun a' w' ⟨A1, φ1, ms, k1, km, k2, k3⟩ => ?_
        · obtain ⟨val, g1, g2⟩ := hvals t v hv
          refine ⟨val, ?_, g2⟩
          have hlt : t < vals.length := (List.getElem?_eq_some_iff.1 g1).1
          rw [Array.getElem?_append_left (by simpa using hlt)]
          simpa using g1
        · have hsubE : Sub r.H (u ++ H1) := by rw [hu]; exact hsub.app u
          have fin : LeavesInM (FW none) 0 P fn a'.tmps (fun e w' => ∃ v', e = .returned v' ∧ ∃ A1 φ1 u E1 d' vs, Stp A φ H1 w A1 φ1 (u ++ H1) w' ∧ (∀ j ∈ keysH (u ++ u0), j < M) ∧ v' = packed vs ∧ List.length vs = s.nres ∧ (∀ t x, VEnv.get E1 t = some x → RelV φ1 A1 x (vs.getD t undef)) ∧
              decL E1 (u ++ u0) s.rs = some d' ∧ d'.x = d.x ∧ (d'.cm ++ d'.cf).Nodup ∧ ∀ j ∈ d'.cm ++ d'.cf, j < M) a'.defers .returning w' := by
            rw [k1.defers, List.append_nil]
            refine leaves_marks km.1 (fun d hd => (km.2 d hd).2.1) fun w2 hh => ?_
            have k2' := k2.hush km hh
            obtain ⟨vs, g1, g2, g3⟩ := resEnv_spec k1 k2'.rep hsubE hE1
            exact ⟨_, results_run g1 g2, _, rfl, A1, φ1, u, E1, d, vs, k2', by rw [← hu]; exact lt b3, rfl, g1.symm.trans hr, fun t x ht => by simpa using (g3 t x ht).2, by rw [← hu]; exact hdec, rfl, nodupB_spec b1, lt b2⟩
          rcases hx with hx | hx
          · rw [hx]; exact fin
          · rw [hx]; exact fin
    · cases h4
  · cases h4
end
end Go.Sat
end
