/-
  Part 2 of what the laws of this set are proved with: an engine that reads code off into pure functions, and what those functions compute. No condition.
-/
import Derived.Test.YtnahijjohgjbdaaM1
set_option linter.unusedVariables false
section
namespace Go.Sat
open Go

/-! ### trees of pure effects -/
inductive PT (α : Type) : Type 1
  | ret (a : α) | fail
  | bind {β : Type} (x : Option β) (k : β → PT α)
  | ite (b : Bool) (t e : PT α)
  | alt {β γ : Type} (o : β ⊕ γ) (f : β → PT α) (g : γ → PT α)
namespace PT
def Ends {α : Type} : PT α → α → Prop
  | .ret a, r => a = r
  | .fail, _ => False
  | .bind x k, r => ∃ y, x = some y ∧ Ends (k y) r
  | .ite b t e, r => (b = true ∧ Ends t r) ∨ (b = false ∧ Ends e r)
  | .alt o f g, r => match o with | .inl x => Ends (f x) r | .inr y => Ends (g y) r
def run {α : Type} : PT α → Option α
  | .ret a => some a
  | .fail => none
  | .bind x k => x.bind fun y => run (k y)
  | .ite b t e => bif b then run t else run e
  | .alt o f g => Sum.elim (fun x => run (f x)) (fun y => run (g y)) o
def andThen {α β : Type} : PT α → (α → PT β) → PT β
  | .ret a, f => f a
  | .fail, _ => .fail
  | .bind x k, f => .bind x fun y => andThen (k y) f
  | .ite b t e, f => .ite b (andThen t f) (andThen e f)
  | .alt o g h, f => .alt o (fun x => andThen (g x) f) fun y => andThen (h y) f
def chk {α : Type} (b : Bool) (m : PT α) : PT α := .ite b m .fail
def opt {α : Type} : Option α → PT α
  | some a => .ret a
  | none => .fail
theorem ends_run {α : Type} {m : PT α} {r : α} : Ends m r ↔ run m = some r := by
  induction m with
  | ret a => simp [Ends, run]
  | fail => simp [Ends, run]
  | bind x k ih =>
    cases x with
    | none => simp [Ends, run]
    | some y => simp [Ends, run, ih]
  | ite b t e iht ihe => cases b <;> simp [Ends, run, iht, ihe]
  | alt o f g ihf ihg => cases o <;> simp [Ends, run, ihf, ihg]
theorem ends_then {α β : Type} {m : PT α} {f : α → PT β} {r : β} : Ends (andThen m f) r ↔ ∃ a, Ends m a ∧ Ends (f a) r := by
  induction m with
  | ret a => simp [Ends, andThen]
  | fail => simp [Ends, andThen]
  | bind x k ih =>
    simp only [Ends, andThen, ih]
    constructor
    · rintro ⟨y, h1, a, h2, h3⟩; exact ⟨a, ⟨y, h1, h2⟩, h3⟩
    · rintro ⟨a, ⟨y, h1, h2⟩, h3⟩; exact ⟨y, h1, a, h2, h3⟩
  | ite b t e iht ihe =>
    simp only [Ends, andThen, iht, ihe]
    constructor
    · rintro (⟨h1, a, h2, h3⟩ | ⟨h1, a, h2, h3⟩)
      · exact ⟨a, .inl ⟨h1, h2⟩, h3⟩
      · exact ⟨a, .inr ⟨h1, h2⟩, h3⟩
    · rintro ⟨a, ⟨h1, h2⟩ | ⟨h1, h2⟩, h3⟩
      · exact .inl ⟨h1, a, h2, h3⟩
      · exact .inr ⟨h1, a, h2, h3⟩
  | alt o g h ihg ihh => cases o <;> simp [Ends, andThen, ihg, ihh]
theorem ends_chk {α : Type} {b : Bool} {m : PT α} {r : α} : Ends (chk b m) r ↔ b = true ∧ Ends m r := by simp [chk, Ends]
theorem ends_opt {α : Type} {x : Option α} {r : α} : Ends (opt x) r ↔ x = some r := by cases x <;> simp [opt, Ends]
theorem run_then {α β : Type} {m : PT α} {f : α → PT β} : run (andThen m f) = (run m).bind fun a => run (f a) := by
  induction m with
  | ret a => rfl
  | fail => rfl
  | bind x k ih => cases x <;> simp [run, andThen, ih]
  | ite b t e iht ihe => cases b <;> simp [run, andThen, iht, ihe]
  | alt o f g ihf ihg => cases o <;> simp [run, andThen, ihf, ihg]
end PT

/-! ### parts of structs and arrays -/
def segDrop : List Seg → Nat → Option (List Seg)
  | l, 0 => some l
  | .one _ :: r, o + 1 => segDrop r o
  | .arr _ n _ :: r, o + 1 => bif Nat.ble n (o + 1) then segDrop r (o + 1 - n) else none
  | [], _ + 1 => none
def segTake : List Seg → Nat → Option (List Seg)
  | _, 0 => some []
  | .one s :: r, m + 1 => (segTake r m).map (.one s :: ·)
  | .arr k n a :: r, m + 1 => bif Nat.ble n (m + 1) then (segTake r (m + 1 - n)).map (.arr k n a :: ·) else none
  | [], _ + 1 => none
def segSub (l : List Seg) (o m : Nat) : Option (List Seg) := match segDrop l o with | some r => segTake r m | none => none
def segPut (l : List Seg) (o : Nat) (new : List Seg) : Option (List Seg) :=
  match segTake l o, segDrop l o with
  | some p, some r => (match segDrop r (segsN new) with | some q => some (p ++ (new ++ q)) | none => none)
  | _, _ => none
section
variable {φ : Ph} {A : Nat → Prop}
theorem RelG.drop {l l' : List Seg} {cs : List Value} {o : Nat} (h : RelG φ A l cs) (hd : segDrop l o = some l') : RelG φ A l' (cs.drop o) ∧ o ≤ cs.length := by
  fun_induction segDrop l o generalizing cs with
  | case1 l => cases hd; exact ⟨by simpa using h, Nat.zero_le _⟩
  | case2 s r o ih =>
    obtain ⟨c, cs', rfl, _, _, h3⟩ := h
    obtain ⟨a, b⟩ := ih h3 hd
    exact ⟨by simpa using a, by simp; omega⟩
  | case3 k n a r o hb ih =>
    obtain ⟨cs', rfl, h1⟩ := h
    obtain ⟨p, q⟩ := ih h1 hd
    have hn : n ≤ o + 1 := by simpa using hb
    have hl : (ints k a.l).length = n := by rw [length_ints, a.h]
    refine ⟨?_, by rw [List.length_append, hl]; omega⟩
    rw [List.drop_append, List.drop_eq_nil_of_le (by omega), List.nil_append, hl]; exact p
  | case4 => cases hd
  | case5 => cases hd
theorem RelG.take {l l' : List Seg} {cs : List Value} {o : Nat} (h : RelG φ A l cs) (hd : segTake l o = some l') : RelG φ A l' (cs.take o) ∧ o ≤ cs.length := by
  fun_induction segTake l o generalizing cs l' with
  | case1 l => cases hd; exact ⟨by rw [List.take_zero]; rfl, Nat.zero_le _⟩
  | case2 s r o ih =>
    obtain ⟨c, cs', rfl, h1, h2, h3⟩ := h
    cases hx : segTake r o with
    | none => rw [hx] at hd; cases hd
    | some l2 =>
      rw [hx] at hd; cases hd
      obtain ⟨a, b⟩ := ih h3 hx
      exact ⟨⟨c, cs'.take o, by simp, h1, h2, a⟩, by simp; omega⟩
  | case3 k n a r o hb ih =>
    obtain ⟨cs', rfl, h1⟩ := h
    cases hx : segTake r (o + 1 - n) with
    | none => rw [hx] at hd; cases hd
    | some l2 =>
      rw [hx] at hd; cases hd
      obtain ⟨p, q⟩ := ih h1 hx
      have hn : n ≤ o + 1 := by simpa using hb
      have hl : (ints k a.l).length = n := by rw [length_ints, a.h]
      refine ⟨⟨cs'.take (o + 1 - n), ?_, p⟩, by rw [List.length_append, hl]; omega⟩
      rw [List.take_append, List.take_of_length_le (by omega), hl]
  | case4 => cases hd
  | case5 => cases hd
theorem RelG.sub {l l' : List Seg} {cs : List Value} {o m : Nat} (h : RelG φ A l cs) (hd : segSub l o m = some l') : RelG φ A l' ((cs.drop o).take m) ∧ o + m ≤ cs.length := by
  unfold segSub at hd
  split at hd
  · rename_i r hr
    obtain ⟨h1, h2⟩ := h.drop hr
    obtain ⟨h3, h4⟩ := h1.take hd
    exact ⟨h3, by rw [List.length_drop] at h4; omega⟩
  · cases hd
theorem RelG.put {l l' new : List Seg} {cs ns : List Value} {o : Nat} (h : RelG φ A l cs) (hn : RelG φ A new ns) (hd : segPut l o new = some l') : RelG φ A l' (splice cs o ns) ∧ o + ns.length ≤ cs.length := by
  unfold segPut at hd
  split at hd
  · rename_i p r hp hr
    split at hd
    · rename_i q hq
      cases hd
      obtain ⟨h1, _⟩ := h.take hp
      obtain ⟨h2, h5⟩ := h.drop hr
      obtain ⟨h3, h4⟩ := h2.drop hq
      rw [← hn.len] at h3 h4
      rw [List.length_drop] at h4
      refine ⟨?_, by omega⟩
      unfold splice
      rw [List.append_assoc]
      rw [List.drop_drop] at h3
      exact h1.app (hn.app h3)
    · cases hd
  · cases hd
end

/-! ### contents of rows -/
def castL {t t' : Ty} (h : t' = t) (l : List t'.den) : List t.den := h ▸ l
/-- the whole of an object that is a row -/
def rowAll (H : Hp) (j : Nat) (t : Ty) : Option (List t.den) :=
  match H.get j with
  | some (.own t' _ l _) => if h : t' = t then some (castL h l) else none
  | some (.ro t' l) => if h : t' = t then some (castL h l) else none
  | _ => none
def rowLen (H : Hp) (j : Nat) : Option Nat :=
  match H.get j with
  | some (.own _ _ l _) => some (List.length l)
  | some (.ro _ l) => some (List.length l)
  | _ => none
def rowSz (H : Hp) (j : Nat) : Option Nat :=
  match H.get j with
  | some (.own t _ _ _) => some t.size
  | some (.ro t _) => some t.size
  | _ => none
/-- an array in a variable -/
def arrIn (l : List Seg) (fo : Nat) : Option (IntKind × Σ n, Arr n) :=
  match segDrop l fo with
  | some (.arr k n a :: _) => some (k, ⟨n, a⟩)
  | _ => none
/-- a block's cells, frozen or not -/
def blkOf : Option Obj → Option (List Seg)
  | some (.blk _ l) => some l
  | some (.fblk _ l) => some l
  | _ => none
theorem blkOf_rep {A : Nat → Prop} {φ : Ph} {H : Hp} {w : World} (h : RepH A φ H w) {j : Nat} {l : List Seg} (hb : blkOf (H.get j) = some l) : ∃ g T cs, (φ j).addr = some ⟨g, 0, none⟩ ∧ Blk w g cs T ∧ RelG φ A l cs ∧ g < w.heap.size ∧
    ∀ N' : Nat → Prop, (∀ k, N' k → MB φ H k) → (∀ o, H.get j = some o → o.mut = true → ∀ ad, (φ j).addr = some ad → ¬ N' ad.block) → ¬ N' g := by
  unfold blkOf at hb
  split at hb
  · rename_i T l' hg; cases hb
    obtain ⟨g, cs, e, hB, hG⟩ := h.obj j _ hg
    exact ⟨g, T, cs, e, hB, hG, hB.lt, fun N' _ ho => ho _ hg rfl _ e⟩
  · rename_i T l' hg; cases hb
    obtain ⟨g, cs, e, hB, hG, hn⟩ := h.obj j _ hg
    exact ⟨g, T, cs, e, hB, hG, hB.lt, fun N' hs _ hN => hn (hs _ hN)⟩
  · cases hb
/-- a part of an object -/
def rowPart (H : Hp) (j fo i sz len : Nat) (top : Option Nat) (t : Ty) : Option (List t.den) :=
  match top with
  | none => bif Nat.beq fo 0 && Nat.beq sz t.size then (match rowAll H j t with | some l => some ((List.drop i l).take len) | none => none) else none
  | some n =>
    match t with
    | .int k => (match blkOf (H.get j) with
      | some l => (match arrIn l fo with | some (k', ⟨n', a⟩) => if k' = k ∧ n' = n ∧ sz = 1 then some ((a.l.drop i).take len) else none | none => none)
      | none => none)
    | _ => none
def slCont (H : Hp) (t : Ty) : BV → Option (List t.den)
  | .nilsl => some []
  | .row j => rowAll H j t
  | .sl j fo i sz len top => rowPart H j fo i sz len top t
  | _ => none
def bvIds : BV → List Nat
  | .row j => [j]
  | .sl j _ _ _ _ _ => [j]
  | .ptr j _ _ _ => [j]
  | .map j => [j]
  | _ => []
def segIds : List Seg → List Nat
  | [] => []
  | .one (.b v) :: r => bvIds v ++ segIds r
  | .one (.fn _ fs cs) :: r => fs.flatMap bvIds ++ (cs.flatMap bvIds ++ segIds r)
  | .one (.yld _) :: r => segIds r
  | .arr _ _ _ :: r => segIds r

theorem RepD.sub {N N' : Nat → Prop} {w : World} (hs : ∀ k, N' k → N k) {t : Ty} {cs : List Value} {x : t.den} (h : RepD N w t cs x) : RepD N' w t cs x :=
  h.kept ⟨Nat.le_refl _, fun k _ hn => ⟨rfl, fun h => hn (hs k h)⟩⟩

/-- What a slice holds, in a world. N': what its block must not be. -/
theorem rowAll_spec {A : Nat → Prop} {φ : Ph} {H : Hp} {w : World} (h : RepH A φ H w) {j : Nat} {t : Ty} {l : List t.den} (hr : rowAll H j t = some l) :
    (φ j).clen = List.length l ∧ List.length l ≤ (φ j).cap ∧ ((φ j).addr = none → (φ j).cap = 0) ∧ (∀ ad, (φ j).addr = some ad → 0 < List.length l → ad.block < w.heap.size) ∧ A j ∧
    ∃ css, All2 (fun cs x => RepD (MB φ H) w t cs x) css l ∧ Row w (φ j).addr css.flatten := by
  unfold rowAll at hr
  split at hr
  · rename_i t' e l' f hg
    split at hr
    · rename_i he
      subst he
      cases hr
      have ho := h.obj j _ hg
      obtain ⟨css, h1, h2, h3, h4, h5, h6⟩ := ho
      refine ⟨h3, ?_, h5, fun ad ha _ => (h.obj j _ hg).low rfl ha, h.dom j _ hg, css, h1, own_row h2⟩
      obtain ⟨a, c, e1, h7, _⟩ := own_slice h2
      cases e1; exact h7
    · cases hr
  · rename_i t' l' hg
    split at hr
    · rename_i he
      subst he
      cases hr
      obtain ⟨css, h1, h2, h3, h4, h5, h6⟩ := h.obj j _ hg
      exact ⟨h3, h4, h5, fun ad ha hp => (h6 ad ha hp).1, h.dom j _ hg, css, h1, h2⟩
    · cases hr
  · cases hr
/-- a row that the world's mutable blocks N' do not hold -/
theorem rowAll_out {A : Nat → Prop} {φ : Ph} {H : Hp} {w : World} (h : RepH A φ H w) {j : Nat} {t : Ty} {l : List t.den} (hr : rowAll H j t = some l) {N' : Nat → Prop} (hs : ∀ k, N' k → MB φ H k)
    (ho : ∀ o, H.get j = some o → o.mut = true → ∀ ad, (φ j).addr = some ad → ¬ N' ad.block) : ∀ ad, (φ j).addr = some ad → 0 < List.length l → ad.block < w.heap.size ∧ ¬ N' ad.block := by
  intro ad ha hp
  obtain ⟨_, _, _, h4, _⟩ := rowAll_spec h hr
  refine ⟨h4 ad ha hp, ?_⟩
  unfold rowAll at hr
  split at hr
  · rename_i hg; exact ho _ hg rfl ad ha
  · rename_i t' l' hg
    split at hr
    · rename_i he
      subst he
      cases hr
      obtain ⟨_, _, _, _, _, _, h6⟩ := h.obj j _ hg
      exact fun hn => (h6 ad ha hp).2 (hs _ hn)
    · cases hr
  · cases hr

theorem Row.drop_take {w : World} {a : Option Addr} {cs : List Value} (h : Row w a cs) (o m : Nat) {a' : Option Addr} (ha : 0 < m → ∃ ad, a = some ad ∧ a' = some (ad.add o)) : Row w a' ((cs.drop o).take m) := by
  intro j v hj
  have hjm : j < m := by
    have := (List.getElem?_eq_some_iff.1 hj).1
    rw [List.length_take] at this; omega
  rw [List.getElem?_take_of_lt hjm, List.getElem?_drop] at hj
  obtain ⟨ad, e, hc⟩ := h _ _ hj
  obtain ⟨ad', e', e2⟩ := ha (by omega)
  rw [e] at e'; cases e'
  exact ⟨_, e2, by rw [add_add]; exact hc⟩

/-- **What a slice holds.** -/
theorem slCont_spec {A : Nat → Prop} {φ : Ph} {H : Hp} {w : World} (h : RepH A φ H w) {t : Ty} {b : BV} {v : Value} {l : List t.den} (hv : RelB φ A b v) (hc : slCont H t b = some l) {N' : Nat → Prop} (hs : ∀ k, N' k → MB φ H k)
    (ho : ∀ j ∈ bvIds b, ∀ o, H.get j = some o → o.mut = true → ∀ ad, (φ j).addr = some ad → ¬ N' ad.block) : RepD N' w (.sl t) [v] l := by
  cases b with
  | nilsl =>
    cases hc; cases hv
    exact ⟨none, 0, rfl, Nat.le_refl _, fun _ => rfl, fun ad e => (by cases e), [], trivial, Row.nil _ _⟩
  | row j =>
    obtain ⟨h1, h2, h3, h4, h5, css, h6, h7⟩ := rowAll_spec h hc
    obtain ⟨_, hv, _, _⟩ := hv
    rw [h1] at hv
    exact ⟨_, _, by rw [hv], h2, h3, rowAll_out h hc hs (ho j (by simp [bvIds])), css, h6.mono fun _ _ => RepD.sub hs, h7⟩
  | sl j fo i sz len top =>
    obtain ⟨hA, a, c, rfl, hlc, hn, hb, ha, hcap, hlen, h00⟩ := hv
    unfold slCont rowPart at hc
    cases top with
    | none =>
      simp only at hc
      cases hf : Nat.beq fo 0 && Nat.beq sz t.size with
      | false => rw [hf] at hc; cases hc
      | true =>
        rw [hf] at hc
        simp only [cond_true] at hc
        simp only [Bool.and_eq_true] at hf
        have e1 := Nat.eq_of_beq_eq_true hf.1
        have e2 := Nat.eq_of_beq_eq_true hf.2
        subst e1; subst e2
        split at hc
        · rename_i l0 hr
          simp only [Option.some.injEq] at hc
          subst hc
          obtain ⟨h1, h2, h3, h4, h5, css, h6, h7⟩ := rowAll_spec h hr
          simp only [Option.getD_none] at hcap hlen
          have hl : List.length (List.take len (List.drop i l0)) = len := by rw [List.length_take, List.length_drop]; omega
          refine ⟨a, c, by rw [hl], by omega, hn, fun ad e hp => ?_, (css.drop i).take len, (h6.drop i |>.take len).mono fun _ _ => RepD.sub hs, ?_⟩
          · obtain ⟨ad0, e0, eb⟩ := hb ad e
            rw [eb]; exact rowAll_out h hr hs (ho j (by simp [bvIds])) ad0 e0 (by rw [hl] at hp; omega)
          · rw [flat_cut (fun _ _ h => RepD.len h) h6 i len]
            refine h7.drop_take _ _ fun hp => ?_
            have : 0 < len := Nat.pos_of_ne_zero fun e => by subst e; simp at hp
            have := ha (by omega)
            simpa using this
        · cases hc
    | some n =>
      cases t with
      | int k =>
       simp only at hc
       split at hc
       · rename_i ls hg
         split at hc
         · rename_i k' n' ar harr
           split at hc
           · rename_i hcond
             obtain ⟨rfl, rfl, rfl⟩ := hcond
             cases hc
             simp only [Option.getD_some] at hcap hlen
             obtain ⟨g, T, cs, e1, hB, hG, hlt, hout⟩ := blkOf_rep h hg
             have hl : List.length (List.take len (List.drop i ar.l)) = len := by rw [List.length_take, List.length_drop, ar.h]; omega
             -- the array's cells within the block
             unfold arrIn at harr
             split at harr
             · rename_i hd
               cases harr
               obtain ⟨hG2, hle⟩ := hG.drop hd
               obtain ⟨cs', e2, _⟩ := hG2
               have hrow : Row w (some ⟨g, fo, none⟩) (ints k' ar.l) := fun q u hq => ⟨_, rfl, by
                 rw [add_mk, hB.cell]
                 have : (cs.drop fo)[q]? = some u := by rw [e2, List.getElem?_append_left (List.getElem?_eq_some_iff.1 hq).1]; exact hq
                 rwa [List.getElem?_drop] at this⟩
               refine ⟨a, c, by rw [hl], by omega, hn, fun ad e _ => ?_, (List.take len (List.drop i ar.l)).map (fun x => [.int k' x]), ?_, ?_⟩
               · obtain ⟨ad0, e0, eb⟩ := hb ad e
                 rw [eb]
                 rw [e1] at e0; cases e0
                 exact ⟨hlt, hout N' hs (ho j (by simp [bvIds]))⟩
               · generalize List.take len (List.drop i ar.l) = ys
                 induction ys with
                 | nil => trivial
                 | cons y ys ih => exact ⟨rfl, ih⟩
               · have e3 : ∀ ys : List Int, (ys.map (fun x => [Value.int k' x])).flatten = ints k' ys := fun ys => by
                   induction ys with
                   | nil => rfl
                   | cons y ys ih => simp [ints] at ih ⊢; exact ih
                 rw [e3, ints_take, ints_drop]
                 refine hrow.drop_take _ _ fun hp => ?_
                 obtain ⟨ad0, e0, e4⟩ := ha (by omega)
                 rw [e1] at e0; cases e0
                 exact ⟨_, rfl, by rw [e4, add_mk, add_mk]; simp⟩
             · cases harr
           · cases hc
         · cases hc
       · cases hc
      | _ => cases hc
  | _ => cases hc

/-! ### closing: a virtual value as contents -/
def closeT (H : Hp) : (t : Ty) → List Seg → Option (t.den × List Seg)
  | .int k => fun | .one (.b (.int k' x)) :: r => if k' = k then some (x, r) else none | _ => none
  | .bool => fun | .one (.b (.bool x)) :: r => some (x, r) | _ => none
  | .str => fun | .one (.b (.str x)) :: r => some (x, r) | _ => none
  | .raw => fun | .one (.b (.raw x)) :: r => some (x, r) | _ => none
  | .arr k n => fun | .arr k' n' a :: r => if h : k' = k ∧ n' = n then some (h.2 ▸ a, r) else none | _ => none
  | .pr a b => fun l => match closeT H a l with | some (x, l') => (match closeT H b l' with | some (y, l'') => some ((x, y), l'') | none => none) | none => none
  | .sl t => fun | .one (.b v) :: r => (match slCont H t v with | some l => some (l, r) | none => none) | _ => none
theorem closeT_spec {A : Nat → Prop} {φ : Ph} {H : Hp} {w : World} (h : RepH A φ H w) {N' : Nat → Prop} (hs : ∀ k, N' k → MB φ H k) {t : Ty} : ∀ {l r : List Seg} {cs : List Value} {x : t.den}, RelG φ A l cs → closeT H t l = some (x, r) →
    (∀ j ∈ segIds l, ∀ o, H.get j = some o → o.mut = true → ∀ ad, (φ j).addr = some ad → ¬ N' ad.block) → (∃ c1 c2, cs = c1 ++ c2 ∧ RelG φ A r c2 ∧ RepD N' w t c1 x) ∧ ∀ j ∈ segIds r, j ∈ segIds l := by
  induction t with
  | int k =>
    intro l r cs x hG hc ho
    unfold closeT at hc
    split at hc <;> try cases hc
    rename_i k' x' r' 
    split at hc
    · rename_i he; subst he; cases hc
      obtain ⟨c, cs', rfl, h1, _, h3⟩ := hG
      exact ⟨⟨[c], cs', rfl, h3, by rw [show c = _ from h1]; rfl⟩, fun j hj => by simpa [segIds, bvIds] using hj⟩
    · cases hc
  | bool =>
    intro l r cs x hG hc ho
    unfold closeT at hc
    split at hc <;> cases hc
    obtain ⟨c, cs', rfl, h1, _, h3⟩ := hG
    exact ⟨⟨[c], cs', rfl, h3, by rw [show c = _ from h1]; rfl⟩, fun j hj => by simpa [segIds, bvIds] using hj⟩
  | str =>
    intro l r cs x hG hc ho
    unfold closeT at hc
    split at hc <;> cases hc
    obtain ⟨c, cs', rfl, h1, _, h3⟩ := hG
    exact ⟨⟨[c], cs', rfl, h3, by rw [show c = _ from h1]; rfl⟩, fun j hj => by simpa [segIds, bvIds] using hj⟩
  | raw =>
    intro l r cs x hG hc ho
    unfold closeT at hc
    split at hc <;> cases hc
    obtain ⟨c, cs', rfl, h1, _, h3⟩ := hG
    exact ⟨⟨[c], cs', rfl, h3, by rw [h1.1], h1.2⟩, fun j hj => by simpa [segIds, bvIds] using hj⟩
  | arr k n =>
    intro l r cs x hG hc ho
    unfold closeT at hc
    split at hc <;> try cases hc
    split at hc
    · rename_i he; obtain ⟨rfl, rfl⟩ := he; cases hc
      obtain ⟨cs', rfl, h1⟩ := hG
      exact ⟨⟨_, cs', rfl, h1, rfl⟩, fun j hj => by simpa [segIds] using hj⟩
    · cases hc
  | pr a b iha ihb =>
    intro l r cs x hG hc ho
    unfold closeT at hc
    split at hc
    · rename_i x1 l1 h1
      split at hc
      · rename_i y1 l2 h2
        cases hc
        obtain ⟨⟨c1, c2, rfl, g1, d1⟩, s1⟩ := iha hG h1 ho
        obtain ⟨⟨c3, c4, rfl, g2, d2⟩, s2⟩ := ihb g1 h2 fun j hj => ho j (s1 j hj)
        exact ⟨⟨c1 ++ c3, c4, by rw [List.append_assoc], g2, c1, c3, rfl, d1, d2⟩, fun j hj => s1 j (s2 j hj)⟩
      · cases hc
    · cases hc
  | sl t ih =>
    intro l r cs x hG hc ho
    unfold closeT at hc
    split at hc <;> try cases hc
    rename_i v r'
    split at hc
    · rename_i l0 hl
      cases hc
      obtain ⟨c, cs', rfl, h1, _, h3⟩ := hG
      refine ⟨⟨[c], cs', rfl, h3, slCont_spec h h1 hl hs fun j hj => ho j (by simp [segIds, hj])⟩, fun j hj => by simp [segIds, hj]⟩
    · cases hc

/-! ### opening: contents as a virtual value -/
def openT : (t : Ty) → t.den → Nat → List Seg × Hp × Nat
  | .int k, x, nx => ([.one (.b (.int k x))], [], nx)
  | .bool, x, nx => ([.one (.b (.bool x))], [], nx)
  | .str, x, nx => ([.one (.b (.str x))], [], nx)
  | .raw, x, nx => ([.one (.b (.raw x))], [], nx)
  | .arr k n, x, nx => ([.arr k n x], [], nx)
  | .pr a b, x, nx =>
    match openT a x.1 nx with
    | (l1, u1, n1) => match openT b x.2 n1 with
      | (l2, u2, n2) => (l1 ++ l2, u1 ++ u2, n2)
  | .sl t, x, nx => ([.one (.b (.row nx))], [(nx, .ro t x)], nx + 1)
/-- ids from lo on, below hi, are new -/
def Fresh (A : Nat → Prop) (lo hi : Nat) : Prop := ∀ j, lo ≤ j → j < hi → ¬ A j
structure Opened (A : Nat → Prop) (φ : Ph) (N : Nat → Prop) (w : World) (lo hi : Nat) (u : Hp) (A' : Nat → Prop) (φ' : Ph) : Prop where
  le : lo ≤ hi
  agree : Agree φ φ' A A'
  only : ∀ j, A' j → A j ∨ (lo ≤ j ∧ j < hi)
  objs : ∀ j o, u.get j = some o → lo ≤ j ∧ j < hi ∧ A' j ∧ o.mut = false ∧ ∀ (N' : Nat → Prop) (w' : World), Kept N N' w w' → RepO φ' A' N' w' (φ' j) o
theorem openT_spec {N : Nat → Prop} {w : World} {t : Ty} : ∀ {cs : List Value} {x : t.den} {A : Nat → Prop} {φ : Ph} {lo : Nat}, RepD N w t cs x → Fresh A lo (openT t x lo).2.2 →
    ∃ A' φ', Opened A φ N w lo (openT t x lo).2.2 (openT t x lo).2.1 A' φ' ∧ RelG φ' A' (openT t x lo).1 cs := by
  induction t with
  | int k => intro cs x A φ lo h _; exact ⟨A, φ, ⟨Nat.le_refl _, .refl _ _, fun _ h => .inl h, fun j o hj => (by cases hj)⟩, .int k x, [], h, rfl, rfl, rfl⟩
  | bool => intro cs x A φ lo h _; exact ⟨A, φ, ⟨Nat.le_refl _, .refl _ _, fun _ h => .inl h, fun j o hj => (by cases hj)⟩, .bool x, [], h, rfl, rfl, rfl⟩
  | str => intro cs x A φ lo h _; exact ⟨A, φ, ⟨Nat.le_refl _, .refl _ _, fun _ h => .inl h, fun j o hj => (by cases hj)⟩, .string x, [], h, rfl, rfl, rfl⟩
  | raw => intro cs x A φ lo h _; exact ⟨A, φ, ⟨Nat.le_refl _, .refl _ _, fun _ h => .inl h, fun j o hj => (by cases hj)⟩, x, [], h.1, ⟨rfl, h.2⟩, h.2, rfl⟩
  | arr k n => intro cs x A φ lo h _; exact ⟨A, φ, ⟨Nat.le_refl _, .refl _ _, fun _ h => .inl h, fun j o hj => (by cases hj)⟩, [], by rw [show cs = _ from h, List.append_nil], rfl⟩
  | pr a b iha ihb =>
    intro cs x A φ lo h hf
    obtain ⟨c1, c2, rfl, h1, h2⟩ := h
    have e : openT (.pr a b) x lo = ((openT a x.1 lo).1 ++ (openT b x.2 (openT a x.1 lo).2.2).1, (openT a x.1 lo).2.1 ++ (openT b x.2 (openT a x.1 lo).2.2).2.1, (openT b x.2 (openT a x.1 lo).2.2).2.2) := rfl
    rw [e] at hf ⊢
    simp only at hf ⊢
    have le2 : (openT a x.1 lo).2.2 ≤ (openT b x.2 (openT a x.1 lo).2.2).2.2 := by
      have mono : ∀ (t : Ty) (x : t.den) (n : Nat), n ≤ (openT t x n).2.2 := by
        intro t
        induction t with
        | pr a b iha ihb => intro x n; exact Nat.le_trans (iha x.1 n) (ihb x.2 _)
        | sl t => intro x n; exact Nat.le_succ _
        | _ => intro x n; exact Nat.le_refl _
      exact mono b x.2 _
    obtain ⟨A1, φ1, o1, g1⟩ := iha (A := A) (φ := φ) (lo := lo) h1 (fun j hj hl => hf j hj (Nat.lt_of_lt_of_le hl le2))
    obtain ⟨A2, φ2, o2, g2⟩ := ihb (A := A1) (φ := φ1) (lo := (openT a x.1 lo).2.2) h2 (fun j hj hl hA => (o1.only j hA).elim (hf j (Nat.le_trans o1.le hj) hl) fun hh => by omega)
    refine ⟨A2, φ2, ⟨Nat.le_trans o1.le o2.le, o1.agree.trans o2.agree, fun j hj => ?_, fun j o hj => ?_⟩, (g1.up o2.agree).app g2⟩
    · rcases o2.only j hj with h | h
      · rcases o1.only j h with h | h
        · exact .inl h
        · exact .inr ⟨h.1, Nat.lt_of_lt_of_le h.2 o2.le⟩
      · exact .inr ⟨Nat.le_trans o1.le h.1, h.2⟩
    · rw [Hp.get_app] at hj
      split at hj
      · rename_i o' ho'
        cases hj
        obtain ⟨a1, a2, a3, a4, a5⟩ := o1.objs j _ ho'
        refine ⟨a1, Nat.lt_of_lt_of_le a2 o2.le, (o2.agree j a3).2, a4, fun N' w' hk => ?_⟩
        rw [(o2.agree j a3).1]
        have := a5 N' w' hk
        refine this.kept o2.agree (Kept.refl _ _) fun hm => by rw [a4] at hm; cases hm
      · obtain ⟨a1, a2, a3, a4, a5⟩ := o2.objs j o hj
        exact ⟨Nat.le_trans o1.le a1, a2, a3, a4, a5⟩
  | sl t ih =>
    intro cs x A φ lo h hf
    obtain ⟨a, c, rfl, h1, h2, h3, css, h4, h5⟩ := h
    have hn : ¬ A lo := hf lo (Nat.le_refl _) (Nat.lt_succ_self _)
    refine ⟨fun j => A j ∨ j = lo, fun j => if j = lo then ⟨a, c, List.length x⟩ else φ j, ⟨Nat.le_succ _, fun j hj => ⟨?_, .inl hj⟩, fun j hj => hj.imp id fun e => by subst e; exact ⟨Nat.le_refl _, Nat.lt_succ_self _⟩, fun j o hj => ?_⟩, ?_⟩
    · rw [if_neg (fun e => hn (by rw [← e]; exact hj))]
    · have hj' : (bif Nat.beq lo j then some (Obj.ro t x) else Hp.get [] j) = some o := hj
      cases hb : Nat.beq lo j with
      | false => rw [hb] at hj'; cases hj'
      | true =>
        have := Nat.eq_of_beq_eq_true hb
        subst this
        rw [hb] at hj'
        cases hj'
        refine ⟨Nat.le_refl _, Nat.lt_succ_self _, .inr rfl, rfl, fun N' w' hk => ?_⟩
        show RepO _ _ _ _ (if lo = lo then _ else _) _
        rw [if_pos rfl]
        exact ⟨css, h4.mono fun _ _ => RepD.kept hk, h5.kept hk fun ad ha hp => h3 ad ha (flat_pos h4 hp), rfl, h1, h2, fun ad ha hp => ⟨Nat.lt_of_lt_of_le (h3 ad ha hp).1 hk.1, (hk.2 _ (h3 ad ha hp).1 (h3 ad ha hp).2).2⟩⟩
    · refine ⟨_, [], rfl, ⟨.inr rfl, ?_⟩, rfl, rfl⟩
      have e : (fun j => if j = lo then (⟨a, c, List.length x⟩ : Bs) else φ j) lo = ⟨a, c, List.length x⟩ := if_pos rfl
      simp only
      exact ⟨rfl, h1, h2⟩
end Go.Sat
end
section
namespace Go.Sat
open Go

/-- what an operation yields: its value, the objects that are laid, the objects that it looks at, the next id -/
structure SR where
  v : VV
  u : Hp
  rd : List Nat
  nx : Nat
def VEnv.put (E : VEnv) : Option Tmp → VV → VEnv
  | none, _ => E
  | some d, v => (d, v) :: E
def evC : Value → Option VV
  | .int k x => some (.int k x)
  | .bool b => some (.bool b)
  | .string s => some (.b (.str s))
  | .pointer none => some (.b .nilptr)
  | .slice none 0 0 => some (.b .nilsl)
  | .map none => some (.b .nilmap)
  | .nilFunc => some (.b .nilfn)
  | .float k x => some (.b (.raw (.float k x)))
  | .nilIface => some (.b (.raw .nilIface))
  | _ => none
def evV (E : VEnv) : Operand → Option VV
  | .tmp t => E.get t
  | .const v => evC v
  | .func f => some (.a (.one (.fn (.func f) [] [])))
  | .global _ => none
theorem evC_spec {v : Value} {vv : VV} (h : evC v = some vv) (φ : Ph) (A : Nat → Prop) : RelV φ A vv v := by
  unfold evC at h
  split at h <;> cases h <;> first | rfl | exact ⟨rfl, rfl⟩
/-- the operands of an operation, as they are -/
def OR (φ : Ph) (A : Nat → Prop) (Ev : VEnv) (E : Env) (o : Oper) : Prop := ∀ x ∈ o.op.operands, ∀ vv, evV Ev x = some vv → RelV φ A vv (E.ev x)

/-- what an operation does -/
def OpS (P : Program) (Ev : VEnv) (H : Hp) (lo : Nat) (o : Oper) (r : SR) : Prop :=
  lo ≤ r.nx ∧ ∀ (A : Nat → Prop) (φ : Ph) (H1 : Hp) (w : World) (E : Env), OR φ A Ev E o → RepH A φ H1 w → (∀ j ∈ r.rd, H1.get j = H.get j) → Fresh A lo r.nx →
    Does P o E w (fun v w' => ∃ A' φ', RelV φ' A' r.v v ∧ Stp A φ H1 w A' φ' (r.u ++ H1) w' ∧ ∀ j, A' j → A j ∨ (lo ≤ j ∧ j < r.nx))
section
variable {P : Program} {Ev : VEnv} {H : Hp} {lo : Nat} {o : Oper}
/-- nothing is laid, nothing is turned -/
theorem OpS.quiet {v : VV} {rd : List Nat} (h : ∀ (A : Nat → Prop) (φ : Ph) (H1 : Hp) (w : World) (E : Env), OR φ A Ev E o → RepH A φ H1 w → (∀ j ∈ rd, H1.get j = H.get j) →
    ∃ u, (execOp E.ev o).run P w = .ok (.value u) w ∧ RelV φ A v u) : OpS P Ev H lo o ⟨v, [], rd, lo⟩ :=
  ⟨Nat.le_refl _, fun A φ H1 w E hO hH hr _ => by
    obtain ⟨u, h1, h2⟩ := h A φ H1 w E hO hH hr
    exact Does.value h1 ⟨A, φ, h2, Stp.refl hH, fun _ h => .inl h⟩⟩
def Q (v : VV) (rd : List Nat) (nx : Nat) : PT SR := .ret ⟨v, [], rd, nx⟩

theorem RelB.int {φ : Ph} {A : Nat → Prop} {k : IntKind} {x : Int} {v : Value} (h : RelV φ A (.int k x) v) : v = .int k x := h
theorem RelB.bool {φ : Ph} {A : Nat → Prop} {x : Bool} {v : Value} (h : RelV φ A (.bool x) v) : v = .bool x := h
theorem RelB.str {φ : Ph} {A : Nat → Prop} {x : ByteArray} {v : Value} (h : RelV φ A (.b (.str x)) v) : v = .string x := h

/-! ### whole numbers -/
/-- does it fit? (told so that a kernel that looks at it stops early) -/
def f64 : Int → Bool
  | .ofNat n => Nat.ble n 9223372036854775807
  | .negSucc n => Nat.ble n 9223372036854775807
theorem f64_iff {x : Int} : f64 x = true ↔ fits64 x := by
  have key : f64 x = true ↔ -9223372036854775808 ≤ x ∧ x ≤ 9223372036854775807 := by
    cases x with
    | ofNat n =>
      show Nat.ble n 9223372036854775807 = true ↔ _
      rw [Nat.ble_eq, show Int.ofNat n = (n : Int) from rfl]
      exact ⟨fun h => ⟨by omega, by omega⟩, fun h => by have := h.2; omega⟩
    | negSucc n =>
      show Nat.ble n 9223372036854775807 = true ↔ _
      rw [Nat.ble_eq]
      exact ⟨fun h => ⟨by omega, by omega⟩, fun h => by have := h.1; omega⟩
  exact key
/-- a sum, a product: of an int it must fit -/
def fitK (k : IntKind) (x : Int) : PT BV := match k with | .i64 => .chk (f64 x) (.ret (.int .i64 x)) | k => .ret (.int k (k.wrap x))
theorem fitK_spec {k : IntKind} {x : Int} {b : BV} (h : PT.Ends (fitK k x) b) : b = .int k (k.wrap x) := by
  unfold fitK at h
  split at h
  · obtain ⟨h1, h2⟩ := PT.ends_chk.1 h
    rw [wrap_fits (f64_iff.1 h1)]; exact h2.symm
  · exact h.symm
def intBin (op : BinOp) (k : IntKind) (a : Int) (b : Int) : PT BV :=
  match op with
  | .add => fitK k (a + b)
  | .sub => fitK k (a - b)
  | .mul => fitK k (a * b)
  | .quo => .chk (!decide (b = 0)) (fitK k (a.tdiv b))
  | .rem => .chk (!decide (b = 0)) (.ret (.int k (a.tmod b)))
  | .and => .ret (.int k (bAnd k a b))
  | .or => .ret (.int k (bOr k a b))
  | .xor => .ret (.int k (bXor k a b))
  | .andNot => .ret (.int k (bAndNot k a b))
  | .eql => .ret (.bool (decide (a = b)))
  | .neq => .ret (.bool (!decide (a = b)))
  | .lss => .ret (.bool (decide (a < b)))
  | .leq => .ret (.bool (decide (a ≤ b)))
  | .gtr => .ret (.bool (decide (b < a)))
  | .geq => .ret (.bool (decide (b ≤ a)))
  | _ => .fail
def strBin (op : BinOp) (x y : ByteArray) : PT BV :=
  match op with
  | .add => .chk (decide (x.size + y.size ≤ 140737488355328)) (.ret (.str (x ++ y)))
  | .eql => .ret (.bool (x == y))
  | .neq => .ret (.bool (!(x == y)))
  | .lss => .ret (.bool (Op.bytesLess x.toList y.toList))
  | .leq => .ret (.bool (Op.bytesLess x.toList y.toList || x == y))
  | .gtr => .ret (.bool (!(Op.bytesLess x.toList y.toList || x == y)))
  | .geq => .ret (.bool (!Op.bytesLess x.toList y.toList))
  | _ => .fail
/-- is a slice known not to be nil? -/
def nilSl (H : Hp) : BV → PT Bool
  | .nilsl => .ret true
  | .row j => (match rowLen H j with | some n => .chk (!decide (n = 0)) (.ret false) | none => .fail)
  | _ => .fail
def bvBin (op : BinOp) (H : Hp) (x y : BV) : PT (BV × List Nat) :=
  match x, y with
  | .int k a, .int k' b =>
    (match op with
     | .shl => (PT.chk (decide (0 ≤ b)) (.ret (.int k (sShl k a b), [])))
     | .shr => (PT.chk (decide (0 ≤ b)) (.ret (.int k (sShr k a b), [])))
     | _ => if k = k' then (intBin op k a b).andThen fun r => .ret (r, []) else .fail)
  | .str a, .str b => (strBin op a b).andThen fun r => .ret (r, [])
  | .bool a, .bool b => (match op with | .eql => .ret (.bool (a == b), []) | .neq => .ret (.bool (!(a == b)), []) | _ => .fail)
  | .nilptr, .nilptr => (match op with | .eql => .ret (.bool true, []) | .neq => .ret (.bool false, []) | _ => .fail)
  | .ptr _ _ _ _, .nilptr => (match op with | .eql => .ret (.bool false, []) | .neq => .ret (.bool true, []) | _ => .fail)
  | x, .nilsl => (match op with | .eql => (nilSl H x).andThen fun r => .ret (.bool r, bvIds x) | .neq => (nilSl H x).andThen fun r => .ret (.bool (!r), bvIds x) | _ => .fail)
  | _, _ => .fail
/-- of what kind types must be, that a test may be made -/
def eqTy (P : Program) (t : TypeId) (x : BV) : Bool :=
  match P.underlying t, x with
  | some (.bool), .bool _ => true
  | some (.pointer _), .nilptr => true
  | some (.pointer _), .ptr _ _ _ _ => true
  | some (.slice _), .nilsl => true
  | some (.slice _), .row _ => true
  | _, .int _ _ => true
  | _, .str _ => true
  | _, _ => false
def binV (P : Program) (op : BinOp) (t : TypeId) (H : Hp) (nx : Nat) : Option VV → Option VV → PT SR
  | some (.a (.one (.b x))), some (.a (.one (.b y))) => bif eqTy P t x then (bvBin op H x y).andThen fun (r, rd) => Q (.b r) rd nx else .fail
  | _, _ => .fail

theorem toListB (a b : ByteArray) : (a.toList == b.toList) = (a == b) := (beq_toListBytes a b).symm
theorem binOp_int {op : BinOp} {k k' : IntKind} {a b : Int} {t : TypeId} {r : BV} (hk : k = k') (h : PT.Ends (intBin op k a b) r) (φ : Ph) (A : Nat → Prop) (w : World) : ∃ u, (binOp op t (.int k a) (.int k' b)).run P w = .ok u w ∧ RelB φ A r u := by
  subst hk
  cases op <;> simp only [intBin] at h <;>
    first
      | exact h.elim
      | (obtain ⟨h1, h2⟩ := PT.ends_chk.1 h
         have h1 : b ≠ 0 := by simpa using h1
         have := fitK_spec h2; subst this
         exact ⟨_, by simp only [binOp, Op.intDiv, h1, ite_false, ne_eq, not_true_eq_false]; rfl, rfl⟩)
      | (obtain ⟨h1, h2⟩ := PT.ends_chk.1 h
         have h1 : b ≠ 0 := by simpa using h1
         cases h2
         exact ⟨_, by simp only [binOp, Op.intDiv, h1, ite_false, ne_eq, not_true_eq_false]; rfl, rfl⟩)
      | (have := fitK_spec h; subst this; exact ⟨_, by simp only [binOp, ne_eq, not_true_eq_false, ite_false]; rfl, rfl⟩)
      | (cases h
         exact ⟨_, by simp only [binOp, ne_eq, not_true_eq_false, ite_false]; rfl, by first | rfl | exact congrArg Value.bool (by simp [Bool.eq_iff_iff])⟩)
theorem binOp_str {op : BinOp} {a b : ByteArray} {t : TypeId} {r : BV} (h : PT.Ends (strBin op a b) r) (φ : Ph) (A : Nat → Prop) (w : World) : ∃ u, (binOp op t (.string a) (.string b)).run P w = .ok u w ∧ RelB φ A r u := by
  cases op <;> simp only [strBin] at h <;>
    first
      | exact h.elim
      | (obtain ⟨h1, h2⟩ := PT.ends_chk.1 h
         have h1 : a.size + b.size ≤ 140737488355328 := by simpa using h1
         cases h2
         refine ⟨.string (a ++ b), ?_, rfl⟩
         have : ¬ (((a.size + b.size : Nat) : Int) > IntKind.i64.max) := by
           have e : IntKind.i64.max = 9223372036854775807 := by decide
           rw [e]; omega
         simp only [binOp, Op.stringOp, this, if_false]; rfl)
      | (cases h
         exact ⟨_, rfl, by first | rfl | exact congrArg Value.bool (by simp only [toListB])⟩)
theorem run_eqGuard_flat {op : BinOp} {t : TypeId} {x y : Operand} {a b : Value} (ha : ∀ cs, a ≠ .agg cs) (hn : a ≠ .nilIface) (w : World) : (eqGuard op t x y a b).run P w = .ok () w := by
  cases op <;> cases a <;> first | rfl | exact absurd rfl hn | exact absurd rfl (ha _)
theorem notAgg {t : TypeId} {φ : Ph} {A : Nat → Prop} {x : BV} {v : Value} (h : RelB φ A x v) (hx : eqTy P t x = true) : (∀ cs, v ≠ .agg cs) ∧ v ≠ .nilIface := by
  cases x with
  | int k x => rw [show v = _ from h]; exact ⟨fun _ e => (by cases e), fun e => (by cases e)⟩
  | bool b => rw [show v = _ from h]; exact ⟨fun _ e => (by cases e), fun e => (by cases e)⟩
  | str s => rw [show v = _ from h]; exact ⟨fun _ e => (by cases e), fun e => (by cases e)⟩
  | nilsl => rw [show v = _ from h]; exact ⟨fun _ e => (by cases e), fun e => (by cases e)⟩
  | nilptr => rw [show v = _ from h]; exact ⟨fun _ e => (by cases e), fun e => (by cases e)⟩
  | row j => rw [show v = _ from h.2.1]; exact ⟨fun _ e => (by cases e), fun e => (by cases e)⟩
  | ptr j fo i sz => obtain ⟨_, ad, _, e⟩ := h; rw [e]; exact ⟨fun _ e => (by cases e), fun e => (by cases e)⟩
  | raw v => unfold eqTy at hx; split at hx <;> simp_all
  | sl j fo i sz len top => unfold eqTy at hx; split at hx <;> simp_all
  | nilmap => unfold eqTy at hx; split at hx <;> simp_all
  | map j => unfold eqTy at hx; split at hx <;> simp_all
  | nilfn => unfold eqTy at hx; split at hx <;> simp_all
  | undef => unfold eqTy at hx; split at hx <;> simp_all
theorem eq_bool {op : BinOp} {t : TypeId} {a b : Bool} {w : World} (ht : P.underlying t = some .bool) (h : op = .eql ∨ op = .neq) : (binOp op t (.bool a) (.bool b)).run P w = .ok (.bool (if op = .eql then a == b else !(a == b))) w := by
  have : (Op.equal t (.bool a) (.bool b)).run P w = .ok (a == b) w := by
    unfold Op.equal Op.maxDepth Op.equalIn
    simp [run_underlying ht]
  rcases h with rfl | rfl <;> simp [binOp, this]
theorem eq_nilptr {op : BinOp} {t e : TypeId} {a : Option Addr} {w : World} (ht : P.underlying t = some (.pointer e)) (h : op = .eql ∨ op = .neq) : (binOp op t (.pointer a) (.pointer none)).run P w = .ok (.bool (if op = .eql then a.isNone else !a.isNone)) w := by
  have : (Op.equal t (.pointer a) (.pointer none)).run P w = .ok a.isNone w := by
    unfold Op.equal Op.maxDepth Op.equalIn
    cases a <;> simp [run_underlying ht]
  rcases h with rfl | rfl <;> simp [binOp, this]
theorem eq_nilsl {op : BinOp} {t e : TypeId} {a : Option Addr} {n c : Nat} {w : World} (ht : P.underlying t = some (.slice e)) (h : op = .eql ∨ op = .neq) : (binOp op t (.slice a n c) (.slice none 0 0)).run P w = .ok (.bool (if op = .eql then a.isNone else !a.isNone)) w := by
  have : (Op.equal t (.slice a n c) (.slice none 0 0)).run P w = .ok a.isNone w := by
    unfold Op.equal Op.maxDepth Op.equalIn
    cases a <;> simp [run_underlying ht]
  rcases h with rfl | rfl <;> simp [binOp, this]
theorem nilSl_spec {A : Nat → Prop} {φ : Ph} {H H1 : Hp} {w : World} {x : BV} {v : Value} {r : Bool} (h : RepH A φ H1 w) (hv : RelB φ A x v) (hr : PT.Ends (nilSl H x) r) (hg : ∀ j ∈ bvIds x, H1.get j = H.get j) : ∃ a n c, v = .slice a n c ∧ a.isNone = r := by
  cases x with
  | nilsl => cases hr; exact ⟨none, 0, 0, hv, rfl⟩
  | row j =>
    simp only [nilSl] at hr
    split at hr
    · rename_i n hn
      obtain ⟨h1, h2⟩ := PT.ends_chk.1 hr
      cases h2
      obtain ⟨_, e, h3, h4⟩ := hv
      refine ⟨_, _, _, e, ?_⟩
      have hcl : (φ j).clen = n := by
        unfold rowLen at hn
        rw [← hg j (by simp [bvIds])] at hn
        split at hn
        · rename_i hgj; cases hn
          obtain ⟨_, _, _, h5, _⟩ := h.obj j _ hgj; exact h5
        · rename_i hgj; cases hn
          obtain ⟨_, _, _, h5, _⟩ := h.obj j _ hgj; exact h5
        · cases hn
      cases ha : (φ j).addr with
      | some ad => rfl
      | none => have := h4 ha; simp at h1; omega
    · exact hr.elim
  | _ => exact hr.elim
theorem execOp_bin {op : BinOp} {t ty2 : TypeId} {x y : Operand} {E : Env} {v : Value} {w : World} (hg : (eqGuard op t x y (E.ev x) (E.ev y)).run P w = .ok () w) (h : (binOp op t (E.ev x) (E.ev y)).run P w = .ok v w) (ho : o.op = .binOp op t x y ty2) :
    (execOp E.ev o).run P w = .ok (.value v) w := by
  unfold execOp
  rw [ho]
  simp only [Sem.run_bind, hg, h, Result.andThen_ok, Sem.run_pure]
theorem bvBin_spec {op : BinOp} {t : TypeId} {A : Nat → Prop} {φ : Ph} {H1 : Hp} {w : World} {x y : BV} {v u : Value} {r : BV} {rd : List Nat} (h : RepH A φ H1 w) (hx : RelB φ A x v) (hy : RelB φ A y u) (ht : eqTy P t x = true) (hr : PT.Ends (bvBin op H x y) (r, rd))
    (hg : ∀ j ∈ rd, H1.get j = H.get j) : ∃ z, (binOp op t v u).run P w = .ok z w ∧ RelB φ A r z := by
  unfold bvBin at hr
  split at hr
  · rename_i k a k' b
    rw [show v = _ from hx, show u = _ from hy]
    split at hr
    · obtain ⟨h1, h2⟩ := PT.ends_chk.1 hr
      cases h2
      have : ¬ b < 0 := by have : 0 ≤ b := by simpa using h1
                           omega
      exact ⟨_, by simp only [binOp, Op.shift, this, if_false]; rfl, rfl⟩
    · obtain ⟨h1, h2⟩ := PT.ends_chk.1 hr
      cases h2
      have : ¬ b < 0 := by have : 0 ≤ b := by simpa using h1
                           omega
      exact ⟨_, by simp only [binOp, Op.shift, this, if_false]; rfl, rfl⟩
    · split at hr
      · rename_i hk
        obtain ⟨r', h1, h2⟩ := PT.ends_then.1 hr
        cases h2
        exact binOp_int hk h1 φ A w
      · exact hr.elim
  · obtain ⟨r', h1, h2⟩ := PT.ends_then.1 hr
    cases h2
    rw [show v = _ from hx, show u = _ from hy]
    exact binOp_str h1 φ A w
  · rename_i a b
    rw [show v = _ from hx, show u = _ from hy]
    have htb : P.underlying t = some .bool := by
      unfold eqTy at ht
      split at ht <;> simp_all
    split at hr
    · cases hr; exact ⟨_, eq_bool htb (.inl rfl), rfl⟩
    · cases hr; exact ⟨_, eq_bool htb (.inr rfl), rfl⟩
    · exact hr.elim
  · rw [show v = _ from hx, show u = _ from hy]
    obtain ⟨e, htb⟩ : ∃ e, P.underlying t = some (.pointer e) := by
      unfold eqTy at ht
      split at ht <;> first | exact ⟨_, by assumption⟩ | simp_all
    split at hr
    · cases hr; exact ⟨_, eq_nilptr htb (.inl rfl), rfl⟩
    · cases hr; exact ⟨_, eq_nilptr htb (.inr rfl), rfl⟩
    · exact hr.elim
  · obtain ⟨_, ad, _, e0⟩ := hx
    rw [e0, show u = _ from hy]
    obtain ⟨e, htb⟩ : ∃ e, P.underlying t = some (.pointer e) := by
      unfold eqTy at ht
      split at ht <;> first | exact ⟨_, by assumption⟩ | simp_all
    split at hr
    · cases hr; exact ⟨_, eq_nilptr htb (.inl rfl), rfl⟩
    · cases hr; exact ⟨_, eq_nilptr htb (.inr rfl), rfl⟩
    · exact hr.elim
  · rw [show u = _ from hy]
    have hty : ∀ q, PT.Ends (nilSl H x) q → ∃ e, P.underlying t = some (.slice e) := by
      intro q hq
      cases x <;> first | exact hq.elim | (unfold eqTy at ht; split at ht <;> first | exact ⟨_, by assumption⟩ | simp_all)
    split at hr
    · obtain ⟨q, h1, h2⟩ := PT.ends_then.1 hr
      cases h2
      obtain ⟨e, he⟩ := hty q h1
      obtain ⟨a, n, c, rfl, rfl⟩ := nilSl_spec h hx h1 hg
      exact ⟨_, eq_nilsl he (.inl rfl), rfl⟩
    · obtain ⟨q, h1, h2⟩ := PT.ends_then.1 hr
      cases h2
      obtain ⟨e, he⟩ := hty q h1
      obtain ⟨a, n, c, rfl, rfl⟩ := nilSl_spec h hx h1 hg
      exact ⟨_, eq_nilsl he (.inr rfl), rfl⟩
    · exact hr.elim
  · exact hr.elim
theorem binV_spec {op : BinOp} {t ty2 : TypeId} {x y : Operand} {r : SR} (ho : o.op = .binOp op t x y ty2) (h : PT.Ends (binV P op t H lo (evV Ev x) (evV Ev y)) r) : OpS P Ev H lo o r := by
  unfold binV at h
  split at h
  · rename_i bx bY ex ey
    cases ht : eqTy P t bx with
    | false => rw [ht] at h; exact h.elim
    | true =>
      rw [ht] at h
      obtain ⟨⟨b, rd⟩, h1, h2⟩ := PT.ends_then.1 h
      cases h2
      refine OpS.quiet fun A φ H1 w E hO hH hr => ?_
      have hx := hO x (by rw [ho]; simp [Op.operands]) _ ex
      have hy := hO y (by rw [ho]; simp [Op.operands]) _ ey
      obtain ⟨z, h3, h4⟩ := bvBin_spec hH hx hy ht h1 hr
      have := notAgg hx ht
      exact ⟨z, execOp_bin (run_eqGuard_flat this.1 this.2 w) h3 ho, h4⟩
  · exact h.elim

/-! ### one operand -/
def unV (op : UnOp) (nx : Nat) : Option VV → PT SR
  | some (.a (.one (.b (.bool b)))) => (match op with | .not => Q (.bool (!b)) [] nx | _ => .fail)
  | some (.a (.one (.b (.int k x)))) => (match op with | .neg => (fitK k (0 - x)).andThen fun r => Q (.b r) [] nx | .xor => Q (.int k (bXor k (if k.signed then -1 else k.max) x)) [] nx | _ => .fail)
  | _ => .fail
theorem unV_spec {op : UnOp} {t : TypeId} {x : Operand} {r : SR} (ho : o.op = .unOp op t x) (h : PT.Ends (unV op lo (evV Ev x)) r) : OpS P Ev H lo o r := by
  have ev : ∀ (E : Env) (w : World) (u : Value), (Op.unary op (E.ev x)).run P w = .ok u w → (execOp E.ev o).run P w = .ok (.value u) w := fun E w u hu => by
    unfold execOp; rw [ho]; simp only [Sem.run_bind, hu, Result.andThen_ok, Sem.run_pure]
  unfold unV at h
  split at h
  · rename_i b ex
    split at h
    · cases h
      refine OpS.quiet fun A φ H1 w E hO hH hr => ?_
      have hx := hO x (by rw [ho]; simp [Op.operands]) _ ex
      exact ⟨_, ev E w _ (by rw [show E.ev x = _ from hx]; rfl), rfl⟩
    · exact h.elim
  · rename_i k n ex
    split at h
    · obtain ⟨b, h1, h2⟩ := PT.ends_then.1 h
      cases h2
      have := fitK_spec h1; subst this
      refine OpS.quiet fun A φ H1 w E hO hH hr => ?_
      have hx := hO x (by rw [ho]; simp [Op.operands]) _ ex
      exact ⟨_, ev E w _ (by rw [show E.ev x = _ from hx]; rfl), rfl⟩
    · cases h
      refine OpS.quiet fun A φ H1 w E hO hH hr => ?_
      have hx := hO x (by rw [ho]; simp [Op.operands]) _ ex
      exact ⟨_, ev E w _ (by rw [show E.ev x = _ from hx]; rfl), rfl⟩
    · exact h.elim
  · exact h.elim

def moveV (nx : Nat) : Option VV → PT SR
  | some v => Q v [] nx
  | none => .fail
theorem moveV_spec {x : Operand} {r : SR} (ho : o.op = .move x ∨ o.op = .assign x) (h : PT.Ends (moveV lo (evV Ev x)) r) : OpS P Ev H lo o r := by
  unfold moveV at h
  split at h
  · rename_i v ev
    cases h
    refine OpS.quiet fun A φ H1 w E hO hH hr => ?_
    have hx := hO x (by rcases ho with ho | ho <;> rw [ho] <;> simp [Op.operands]) _ ev
    refine ⟨E.ev x, ?_, hx⟩
    unfold execOp
    rcases ho with ho | ho <;> rw [ho] <;> rfl
  · exact h.elim
def pickV (nx : Nat) (c a b : Option VV) : PT SR :=
  match c with
  | some (.a (.one (.b (.bool t)))) => .ite t (moveV nx a) (moveV nx b)
  | _ => .fail
theorem pickV_spec {c x y : Operand} {r : SR} (ho : o.op = .pick c x y) (h : PT.Ends (pickV lo (evV Ev c) (evV Ev x) (evV Ev y)) r) : OpS P Ev H lo o r := by
  unfold pickV at h
  split at h
  · rename_i t ec
    have run : ∀ (E : Env) (w : World), E.ev c = .bool t → (execOp E.ev o).run P w = .ok (.value (if t then E.ev x else E.ev y)) w := fun E w hc => by
      unfold execOp; rw [ho]; simp [hc, asBool]
    rcases h with ⟨rfl, h⟩ | ⟨rfl, h⟩ <;> unfold moveV at h <;> split at h
    · rename_i v ev
      cases h
      refine OpS.quiet fun A φ H1 w E hO hH hr => ⟨E.ev x, ?_, hO x (by rw [ho]; simp [Op.operands]) _ ev⟩
      exact run E w (hO c (by rw [ho]; simp [Op.operands]) _ ec)
    · exact h.elim
    · rename_i v ev
      cases h
      refine OpS.quiet fun A φ H1 w E hO hH hr => ⟨E.ev y, ?_, hO y (by rw [ho]; simp [Op.operands]) _ ev⟩
      exact run E w (hO c (by rw [ho]; simp [Op.operands]) _ ec)
    · exact h.elim
  · exact h.elim
def extractV (nx i : Nat) : Option VV → PT SR
  | some (.tup l) => (match l[i]? with | some v => Q (.a v) [] nx | none => .fail)
  | _ => .fail
theorem extractV_spec {x : Operand} {i : Nat} {r : SR} (ho : o.op = .extract x i) (h : PT.Ends (extractV lo i (evV Ev x)) r) : OpS P Ev H lo o r := by
  unfold extractV at h
  split at h
  · rename_i l ex
    split at h
    · rename_i v hv
      cases h
      refine OpS.quiet fun A φ H1 w E hO hH hr => ?_
      obtain ⟨vs, e, hl⟩ := hO x (by rw [ho]; simp [Op.operands]) _ ex
      obtain ⟨u, hu, hr⟩ := hl.getl hv
      refine ⟨u, ?_, hr⟩
      unfold execOp; rw [ho]
      simp [e, Instr.extract, hu]
    · exact h.elim
  · exact h.elim
def nilCheckV (nx : Nat) : Option VV → PT SR
  | some (.a (.one (.b (.ptr j fo i sz)))) => Q (.b (.ptr j fo i sz)) [] nx
  | _ => .fail
theorem nilCheckV_spec {x : Operand} {r : SR} (ho : o.op = .nilCheck x) (h : PT.Ends (nilCheckV lo (evV Ev x)) r) : OpS P Ev H lo o r := by
  unfold nilCheckV at h
  split at h
  · rename_i j fo i sz ex
    cases h
    refine OpS.quiet fun A φ H1 w E hO hH hr => ?_
    have hx := hO x (by rw [ho]; simp [Op.operands]) _ ex
    obtain ⟨hA, ad, ha, e⟩ := hx
    exact ⟨_, by unfold execOp; rw [ho]; simp only [e]; rfl, hA, ad, ha, rfl⟩
  · exact h.elim
def convV (P : Program) (src dst : TypeId) (nx : Nat) : Option VV → PT SR
  | some (.a (.one (.b (.int _ x)))) => (match P.underlying src, P.underlying dst with | some _, some (.int k) => (fitK k x).andThen fun r => Q (.b r) [] nx | _, _ => .fail)
  | some (.a (.one (.b (.str s)))) => (match P.underlying src, P.underlying dst with | some _, some .string => Q (.b (.str s)) [] nx | _, _ => .fail)
  | _ => .fail
theorem convV_spec {src dst : TypeId} {x : Operand} {r : SR} (ho : o.op = .convert src dst x) (h : PT.Ends (convV P src dst lo (evV Ev x)) r) : OpS P Ev H lo o r := by
  have ev : ∀ (E : Env) (w : World) (u : Value), (convert src dst (E.ev x)).run P w = .ok u w → (execOp E.ev o).run P w = .ok (.value u) w := fun E w u hu => by
    unfold execOp; rw [ho]; simp only [Sem.run_bind, hu, Result.andThen_ok, Sem.run_pure]
  unfold convV at h
  split at h
  · rename_i k0 n ex
    split at h
    · rename_i d k hs hd
      obtain ⟨b, h1, h2⟩ := PT.ends_then.1 h
      cases h2
      have := fitK_spec h1; subst this
      refine OpS.quiet fun A φ H1 w E hO hH hr => ?_
      have hx := hO x (by rw [ho]; simp [Op.operands]) _ ex
      refine ⟨_, ev E w _ ?_, rfl⟩
      rw [show E.ev x = _ from hx]
      unfold convert
      simp only [Sem.run_bind, run_underlying hs, run_underlying hd, Result.andThen_ok]
      rfl
    · exact h.elim
  · rename_i s ex
    split at h
    · rename_i d hs hd
      cases h
      refine OpS.quiet fun A φ H1 w E hO hH hr => ?_
      have hx := hO x (by rw [ho]; simp [Op.operands]) _ ex
      refine ⟨_, ev E w _ ?_, rfl⟩
      rw [show E.ev x = _ from hx]
      unfold convert
      simp only [Sem.run_bind, run_underlying hs, run_underlying hd, Result.andThen_ok]
      rfl
    · exact h.elim
  · exact h.elim
end
end Go.Sat
end
section
namespace Go.Sat
open Go

section
variable {P : Program} {Ev : VEnv} {H : Hp} {lo : Nat} {o : Oper}

def bvLen (H : Hp) : BV → Option Nat
  | .nilsl => some 0
  | .row j => rowLen H j
  | .sl _ _ _ _ len _ => some len
  | _ => none
theorem clen_of {A : Nat → Prop} {φ : Ph} {H1 : Hp} {w : World} (h : RepH A φ H1 w) {j n : Nat} (hn : rowLen H1 j = some n) : (φ j).clen = n := by
  unfold rowLen at hn
  split at hn
  · rename_i hgj; cases hn
    obtain ⟨_, _, _, h5, _⟩ := h.obj j _ hgj; exact h5
  · rename_i hgj; cases hn
    obtain ⟨_, _, _, h5, _⟩ := h.obj j _ hgj; exact h5
  · cases hn
theorem rowLen_agree {H1 : Hp} {j : Nat} (hg : H1.get j = H.get j) : rowLen H1 j = rowLen H j := by unfold rowLen; rw [hg]
theorem rowSz_agree {H1 : Hp} {j : Nat} (hg : H1.get j = H.get j) : rowSz H1 j = rowSz H j := by unfold rowSz; rw [hg]
theorem rowAll_agree {H1 : Hp} {j : Nat} {t : Ty} (hg : H1.get j = H.get j) : rowAll H1 j t = rowAll H j t := by unfold rowAll; rw [hg]
theorem slCont_agree {H1 : Hp} {t : Ty} {b : BV} (hg : ∀ j ∈ bvIds b, H1.get j = H.get j) : slCont H1 t b = slCont H t b := by
  cases b with
  | row j => exact rowAll_agree (hg j (by simp [bvIds]))
  | sl j fo i sz len top =>
    have e := hg j (by simp [bvIds])
    simp only [slCont, rowPart, rowAll_agree e, e]
  | _ => rfl
/-- a slice, as it is -/
theorem sl_real {A : Nat → Prop} {φ : Ph} {H1 : Hp} {w : World} (h : RepH A φ H1 w) {b : BV} {v : Value} {n : Nat} (hv : RelB φ A b v) (hn : bvLen H b = some n) (hg : ∀ j ∈ bvIds b, H1.get j = H.get j) :
    ∃ a c, v = .slice a n c ∧ n ≤ c ∧ (a = none → c = 0) := by
  cases b with
  | nilsl => cases hn; exact ⟨none, 0, hv, Nat.le_refl _, fun _ => rfl⟩
  | row j =>
    have := clen_of h (by rw [rowLen_agree (hg j (by simp [bvIds]))]; exact hn)
    obtain ⟨_, e, h1, h2⟩ := hv
    rw [this] at e h1
    exact ⟨_, _, e, h1, h2⟩
  | sl j fo i sz len top => cases hn; obtain ⟨_, a, c, e, h1, h2, _⟩ := hv; exact ⟨a, c, e, h1, h2⟩
  | _ => cases hn

def bI (n : Nat) : VV := .int .i64 (n : Int)
def lenV (P : Program) (t : TypeId) (H : Hp) (nx : Nat) (x : Option VV) : PT SR :=
  match P.underlying t, x with
  | some .string, some (.a (.one (.b (.str s)))) => Q (bI s.size) [] nx
  | some (.array n _), _ => Q (bI n) [] nx
  | some (.slice _), some (.a (.one (.b b))) => (match bvLen H b with | some n => Q (bI n) (bvIds b) nx | none => .fail)
  | _, _ => .fail
theorem run_len {t ty : TypeId} {v u : Value} {x : Operand} {E : Env} {w : World} (ho : o.op = .call { callee := .builtin .len, args := #[x], argTypes := #[t] }) (hx : E.ev x = v) (h : (Builtin.len_ #[t] ty #[v]).run P w = .ok u w) (hty : o.type = ty) :
    (execOp E.ev o).run P w = .ok (.value u) w := by
  unfold execOp; rw [ho]
  subst hty
  simp [resolve, invoke, builtin, hx, h]
theorem lenV_spec {t : TypeId} {x : Operand} {r : SR} (ho : o.op = .call { callee := .builtin .len, args := #[x], argTypes := #[t] }) (h : PT.Ends (lenV P t H lo (evV Ev x)) r) : OpS P Ev H lo o r := by
  unfold lenV at h
  split at h
  · rename_i s hu ex
    cases h
    refine OpS.quiet fun A φ H1 w E hO hH hr => ⟨_, run_len ho (hO x (by rw [ho]; simp [Op.operands, Call.operands]) _ ex) ?_ rfl, rfl⟩
    simp [Builtin.len_, run_underlying hu, goInt]
  · rename_i n e hu
    cases h
    refine OpS.quiet fun A φ H1 w E hO hH hr => ⟨_, run_len ho rfl ?_ rfl, rfl⟩
    simp [Builtin.len_, run_underlying hu, goInt]
  · rename_i e b hu ex
    split at h
    · rename_i n hn
      cases h
      refine OpS.quiet fun A φ H1 w E hO hH hr => ?_
      obtain ⟨a, c, e1, _⟩ := sl_real hH (hO x (by rw [ho]; simp [Op.operands, Call.operands]) _ ex) hn hr
      refine ⟨_, run_len ho e1 ?_ rfl, rfl⟩
      simp [Builtin.len_, run_underlying hu, goInt]
    · exact h.elim
  · exact h.elim

/-! ### addresses -/
def inB (i : Int) (n : Nat) : Bool := decide (0 ≤ i) && decide (i < (n : Int))
theorem inB_iff {i : Int} {n : Nat} : inB i n = true ↔ 0 ≤ i ∧ i < (n : Int) := by simp [inB]
def indexAddrV (P : Program) (t : TypeId) (H : Hp) (nx : Nat) (x i : Option VV) : PT SR :=
  match P.underlying t, x, i with
  | some (.slice e), some (.a (.one (.b (.row j)))), some (.a (.one (.b (.int _ i)))) =>
    (match rowLen H j, rowSz H j with
     | some n, some sz => bif Nat.beq (P.cellsOf e) sz && (P.info? e).isSome then .chk (inB i n) (Q (.b (.ptr j 0 i.toNat sz)) [j] nx) else .fail
     | _, _ => .fail)
  | some (.slice e), some (.a (.one (.b (.sl j fo i0 sz len _)))), some (.a (.one (.b (.int _ i)))) =>
    bif Nat.beq (P.cellsOf e) sz && (P.info? e).isSome then .chk (inB i len) (Q (.b (.ptr j fo (i0 + i.toNat) sz)) [] nx) else .fail
  | some (.array n e), some (.a (.one (.b (.ptr j fo 0 0)))), some (.a (.one (.b (.int _ i)))) =>
    bif (P.info? e).isSome then .chk (inB i n) (Q (.b (.ptr j fo i.toNat (P.cellsOf e))) [] nx) else .fail
  | _, _, _ => .fail
theorem run_indexAddr {t : TypeId} {x i : Operand} {E : Env} {u : Value} {w : World} (ho : o.op = .indexAddr t x i) (h : (Instr.indexAt t (E.ev x) (E.ev i)).run P w = .ok u w) : (execOp E.ev o).run P w = .ok (.value u) w := by
  unfold execOp; rw [ho]; simp only [Sem.run_bind, h, Result.andThen_ok, Sem.run_pure]
theorem indexAddrV_spec {t : TypeId} {x i : Operand} {r : SR} (ho : o.op = .indexAddr t x i) (h : PT.Ends (indexAddrV P t H lo (evV Ev x) (evV Ev i)) r) : OpS P Ev H lo o r := by
  have hxm : x ∈ o.op.operands := by rw [ho]; simp [Op.operands]
  have him : i ∈ o.op.operands := by rw [ho]; simp [Op.operands]
  unfold indexAddrV at h
  split at h
  · rename_i e j k i' hu ex ei
    split at h
    · rename_i n sz hn hs
      cases hc : Nat.beq (P.cellsOf e) sz && (P.info? e).isSome with
      | false => rw [hc] at h; exact h.elim
      | true =>
        rw [hc] at h
        simp only [Bool.and_eq_true] at hc
        obtain ⟨hc1, hc2⟩ := hc
        have hc1 := Nat.eq_of_beq_eq_true hc1
        subst hc1
        obtain ⟨hb, h2⟩ := PT.ends_chk.1 h
        cases h2
        obtain ⟨h0, h1⟩ := inB_iff.1 hb
        refine OpS.quiet fun A φ H1 w E hO hH hr => ?_
        obtain ⟨hA, e1, h3, h4⟩ := hO x hxm _ ex
        have e2 : E.ev i = .int k i' := hO i him _ ei
        have hcl := clen_of hH (by rw [rowLen_agree (hr j (by simp))]; exact hn)
        cases ha : (φ j).addr with
        | none => exfalso; have := h4 ha; omega
        | some ad =>
          refine ⟨_, run_indexAddr ho (by rw [e1, e2, ha]; exact indexAt_slice hu h0 (by rw [hcl]; exact h1) hc2 w), hA, ad, ha, by rw [Nat.zero_add]⟩
    · exact h.elim
  · rename_i e j fo i0 sz len top k i' hu ex ei
    cases hc : Nat.beq (P.cellsOf e) sz && (P.info? e).isSome with
    | false => rw [hc] at h; exact h.elim
    | true =>
      rw [hc] at h
      simp only [Bool.and_eq_true] at hc
      obtain ⟨hc1, hc2⟩ := hc
      have hc1 := Nat.eq_of_beq_eq_true hc1
      subst hc1
      obtain ⟨hb, h2⟩ := PT.ends_chk.1 h
      cases h2
      obtain ⟨h0, h1⟩ := inB_iff.1 hb
      refine OpS.quiet fun A φ H1 w E hO hH hr => ?_
      obtain ⟨hA, a, c, e1, h3, h4, _, h6, _⟩ := hO x hxm _ ex
      have e2 : E.ev i = .int k i' := hO i him _ ei
      obtain ⟨ad0, e3, e4⟩ := h6 (by omega)
      refine ⟨_, run_indexAddr ho (by rw [e1, e2, e4]; exact indexAt_slice hu h0 h1 hc2 w), hA, ad0, e3, ?_⟩
      rw [add_add, Nat.add_mul, Nat.add_assoc]
  · rename_i n e j fo k i' hu ex ei
    cases hc : (P.info? e).isSome with
    | false => rw [hc] at h; exact h.elim
    | true =>
      rw [hc] at h
      obtain ⟨hb, h2⟩ := PT.ends_chk.1 h
      cases h2
      obtain ⟨h0, h1⟩ := inB_iff.1 hb
      refine OpS.quiet fun A φ H1 w E hO hH hr => ?_
      obtain ⟨hA, ad, e1, e2⟩ := hO x hxm _ ex
      have e3 : E.ev i = .int k i' := hO i him _ ei
      refine ⟨_, run_indexAddr ho (by rw [e2, e3]; exact indexAt_array hu h0 h1 hc w), hA, ad, e1, ?_⟩
      rw [add_add]; simp
  · exact h.elim

def fieldAddrV (P : Program) (t : TypeId) (f : Nat) (nx : Nat) (x : Option VV) : PT SR :=
  match P.underlying t, x with
  | some (.struct fs), some (.a (.one (.b (.ptr j fo i sz)))) =>
    (match fs[f]? with
     | some fd => bif (P.info? fd.type).isSome && !Nat.beq (P.cellsOf fd.type) 0 then Q (.b (.ptr j (fo + fd.offset) i sz)) [] nx else .fail
     | none => .fail)
  | _, _ => .fail
theorem fieldAddrV_spec {t : TypeId} {f : Nat} {x : Operand} {r : SR} (ho : o.op = .fieldAddr t x f) (h : PT.Ends (fieldAddrV P t f lo (evV Ev x)) r) : OpS P Ev H lo o r := by
  unfold fieldAddrV at h
  split at h
  · rename_i fs j fo i sz hu ex
    split at h
    · rename_i fd hf
      cases hc : (P.info? fd.type).isSome && !Nat.beq (P.cellsOf fd.type) 0 with
      | false => rw [hc] at h; exact h.elim
      | true =>
        rw [hc] at h
        cases h
        simp only [Bool.and_eq_true, Bool.not_eq_true'] at hc
        obtain ⟨inf, hinf⟩ := Option.isSome_iff_exists.1 hc.1
        have hne : ¬ inf.size = 0 := by rw [← cellsOf_info hinf]; intro e; rw [e] at hc; simp at hc
        refine OpS.quiet fun A φ H1 w E hO hH hr => ?_
        obtain ⟨hA, ad, e1, e2⟩ := hO x (by rw [ho]; simp [Op.operands]) _ ex
        refine ⟨.pointer (some ((ad.add (fo + i * sz)).add fd.offset)), ?_, hA, ad, e1, ?_⟩
        · unfold execOp; rw [ho]
          simp only [e2]
          unfold Instr.fieldAt fieldPlace
          simp [Sem.run_bind, run_underlying hu, hf, Instr.sureAddr, sizeOf, typeInfo, program, Sem.run, hinf, hne]
        · rw [add_add]; congr 3; omega
    · exact h.elim
  · exact h.elim

/-- a value out of the cells of a type -/
def packV (P : Program) (T : TypeId) (ss : List Seg) : Option AV :=
  bif oneT P T then (match ss with | [.one s] => some (.one s) | _ => none) else bif aggT P T then some (.agg ss) else none
theorem packV_part {T : TypeId} {ss : List Seg} {v : AV} {A : Nat → Prop} {φ : Ph} {cs : List Value} {off : Nat} (h : packV P T ss = some v) (hs : RelG φ A ss ((cs.drop off).take (P.cellsOf T))) (w : World) :
    ∃ u, (part T cs.toArray off).run P w = .ok u w ∧ RelA φ A v u := by
  unfold packV at h
  cases h1 : oneT P T with
  | true =>
    rw [h1] at h
    simp only [cond_true] at h
    split at h
    · cases h
      obtain ⟨c, cs', e, h2, h3, h4⟩ := hs
      refine ⟨c, run_part_one h1 ?_, h2⟩
      have : ((cs.drop off).take (P.cellsOf T))[0]? = some c := by rw [e]; rfl
      rw [List.getElem?_take] at this
      split at this
      · simpa using this
      · cases this
    · cases h
  | false =>
    rw [h1] at h
    simp only [cond_false] at h
    cases h2 : aggT P T with
    | false => rw [h2] at h; cases h
    | true =>
      rw [h2] at h
      cases h
      refine ⟨_, run_part_agg h2, _, ?_, hs⟩
      congr 1
      apply Array.ext'
      simp [List.extract_eq_take_drop]
def fieldV (P : Program) (t : TypeId) (f : Nat) (nx : Nat) (x : Option VV) : PT SR :=
  match P.underlying t, x with
  | some (.struct fs), some (.a (.agg l)) =>
    (match fs[f]? with
     | some fd => (match segSub l fd.offset (P.cellsOf fd.type) with
       | some ss => (match packV P fd.type ss with | some v => Q (.a v) [] nx | none => .fail)
       | none => .fail)
     | none => .fail)
  | _, _ => .fail
theorem fieldV_spec {t : TypeId} {f : Nat} {x : Operand} {r : SR} (ho : o.op = .field t x f) (h : PT.Ends (fieldV P t f lo (evV Ev x)) r) : OpS P Ev H lo o r := by
  unfold fieldV at h
  split at h
  · rename_i fs l hu ex
    split at h
    · rename_i fd hf
      split at h
      · rename_i ss hss
        split at h
        · rename_i v hv
          cases h
          refine OpS.quiet fun A φ H1 w E hO hH hr => ?_
          obtain ⟨cs, e1, hG⟩ := hO x (by rw [ho]; simp [Op.operands]) _ ex
          obtain ⟨u, h1, h2⟩ := packV_part (P := P) hv (hG.sub hss).1 w
          refine ⟨u, ?_, h2⟩
          unfold execOp; rw [ho]
          simp only [e1, Instr.field, Sem.run_bind, run_underlying hu, Result.andThen_ok, hf, asAgg, Sem.run_pure, h1]
        · exact h.elim
      · exact h.elim
    · exact h.elim
  · exact h.elim

def indexV (P : Program) (t : TypeId) (nx : Nat) (x i : Option VV) : PT SR :=
  match P.underlying t, x, i with
  | some (.array n e), some (.a (.agg [.arr k n' a])), some (.a (.one (.b (.int _ i)))) =>
    bif Nat.beq n n' && oneT P e && decide ((P.info? e).map (·.size) = some 1) then .chk (inB i n) (.bind (a.l[i.toNat]?) fun x => Q (.int k x) [] nx) else .fail
  | some .string, some (.a (.one (.b (.str s)))), some (.a (.one (.b (.int _ i)))) => .chk (inB i s.size) (.bind (s[i.toNat]?) fun c => Q (.int .u8 c.toNat) [] nx)
  | _, _, _ => .fail
theorem indexV_spec {t : TypeId} {x i : Operand} {r : SR} (ho : o.op = .index t x i) (h : PT.Ends (indexV P t lo (evV Ev x) (evV Ev i)) r) : OpS P Ev H lo o r := by
  have hxm : x ∈ o.op.operands := by rw [ho]; simp [Op.operands]
  have him : i ∈ o.op.operands := by rw [ho]; simp [Op.operands]
  have run : ∀ (E : Env) (w : World) (u : Value), (Instr.index t (E.ev x) (E.ev i)).run P w = .ok u w → (execOp E.ev o).run P w = .ok (.value u) w := fun E w u hu => by
    unfold execOp; rw [ho]; simp only [Sem.run_bind, hu, Result.andThen_ok, Sem.run_pure]
  unfold indexV at h
  split at h
  · rename_i n e k n' a k' i' hu ex ei
    cases hc : Nat.beq n n' && oneT P e && decide ((P.info? e).map (·.size) = some 1) with
    | false => rw [hc] at h; exact h.elim
    | true =>
      rw [hc] at h
      simp only [Bool.and_eq_true, decide_eq_true_eq] at hc
      obtain ⟨⟨hn, h1⟩, hs⟩ := hc
      have hn := Nat.eq_of_beq_eq_true hn
      subst hn
      obtain ⟨hb, y, hy, h2⟩ := PT.ends_chk.1 h
      cases h2
      obtain ⟨h0, h3⟩ := inB_iff.1 hb
      refine OpS.quiet fun A φ H1 w E hO hH hr => ?_
      obtain ⟨cs, e1, cs', e2, e3⟩ := hO x hxm _ ex
      have e3' : cs' = [] := e3
      subst e3'
      rw [List.append_nil] at e2
      subst e2
      have e4 : E.ev i = .int k' i' := hO i him _ ei
      refine ⟨.int k y, run E w _ ?_, rfl⟩
      have hsz : (sizeOf e).run P w = .ok 1 w := by
        cases hi : P.info? e with
        | none => simp [hi] at hs
        | some inf => have : inf.size = 1 := by simpa [hi] using hs
                      simp [sizeOf, typeInfo, program, Sem.run, hi, this]
      have hcell : (ints k a.l).toArray[i'.toNat]? = some (.int k y) := by simp [ints, hy]
      have p : (part e (ints k a.l).toArray (i'.toNat * 1)).run P w = .ok (.int k y) w := run_part_one h1 (by simpa using hcell)
      have hcd : 0 ≤ i' ∧ i' < (n : Int) := ⟨h0, h3⟩
      rw [e1, e4]
      unfold Instr.index
      simp only [asIntOf, Sem.run_bind, Sem.run_pure, run_underlying hu, Result.andThen_ok, hcd, and_self, if_true, hsz, p]
  · rename_i s k' i' hu ex ei
    obtain ⟨hb, y, hy, h2⟩ := PT.ends_chk.1 h
    cases h2
    obtain ⟨h0, h3⟩ := inB_iff.1 hb
    refine OpS.quiet fun A φ H1 w E hO hH hr => ?_
    have e1 : E.ev x = .string s := hO x hxm _ ex
    have e4 : E.ev i = .int k' i' := hO i him _ ei
    refine ⟨.int .u8 y.toNat, run E w _ ?_, rfl⟩
    rw [e1, e4]
    unfold Instr.index
    simp [asIntOf, Sem.run_bind, run_underlying hu, h0, hy]
  · exact h.elim

/-! ### parts of slices -/
/-- a bound that is given must be a whole number -/
def loB : Option (Option VV) → Option Int
  | none => some 0
  | some (some (.a (.one (.b (.int _ i))))) => some i
  | _ => none
def hiB (n : Nat) : Option (Option VV) → Option (Bool × Int × Nat)
  | none => some (true, (n : Int), n)
  | some (some (.a (.one (.b (.int _ i))))) => some (decide (i ≤ (n : Int)), i, i.toNat)
  | _ => none
/-- a slice from lo to hi, hi within n -/
def cutOk (lo : Option (Option VV)) (h : Int) : Option (Bool × Nat) :=
  match lo with
  | none => some (decide (0 ≤ h), 0)
  | some (some (.a (.one (.b (.int _ i))))) => some (decide (0 ≤ i) && decide (i ≤ h), i.toNat)
  | _ => none
def optV (Ev : VEnv) : Option Operand → Option (Option VV)
  | none => none
  | some x => some (evV Ev x)
def subN (a b : Nat) : Nat := match b with | 0 => a | b => a - b
theorem subN_eq (a b : Nat) : subN a b = a - b := by unfold subN; split <;> simp
def addN (a b : Nat) : Nat := match a with | 0 => b | a => a + b
theorem addN_eq (a b : Nat) : addN a b = a + b := by unfold addN; split <;> simp
def sliceV (P : Program) (t : TypeId) (H : Hp) (nx : Nat) (x : Option VV) (l h : Option (Option VV)) : PT SR :=
  match x with
  | some (.a (.one (.b (.str s)))) =>
    (match P.underlying t, hiB s.size h with
     | some .string, some (c, hi, hn) => (match cutOk l hi with | some (c2, ln) => .chk (c && c2) (Q (.b (.str (s.extract ln hn))) [] nx) | none => .fail)
     | _, _ => .fail)
  | some (.a (.one (.b (.row j)))) =>
    (match P.underlying t, rowLen H j, rowSz H j with
     | some (.slice e), some n, some sz =>
       bif Nat.beq (P.cellsOf e) sz && (P.info? e).isSome then
       (match hiB n h with | some (c, hi, hn) => (match cutOk l hi with | some (c2, ln) => .chk (c && c2) (Q (.b (.sl j 0 ln sz (subN hn ln) none)) [j] nx) | none => .fail) | none => .fail) else .fail
     | _, _, _ => .fail)
  | some (.a (.one (.b (.sl j fo i sz len top)))) =>
    (match P.underlying t with
     | some (.slice e) =>
       bif Nat.beq (P.cellsOf e) sz && (P.info? e).isSome then
       (match hiB len h with | some (c, hi, hn) => (match cutOk l hi with | some (c2, ln) => .chk (c && c2) (Q (.b (.sl j fo (i + ln) sz (subN hn ln) top)) [] nx) | none => .fail) | none => .fail) else .fail
     | _ => .fail)
  | some (.a (.one (.b .nilsl))) =>
    (match P.underlying t with
     | some (.slice e) =>
       bif (P.info? e).isSome then
       (match hiB 0 h with | some (c, hi, hn) => (match cutOk l hi with | some (c2, ln) => .chk (c && c2) (Q (.b .nilsl) [] nx) | none => .fail) | none => .fail) else .fail
     | _ => .fail)
  | some (.a (.one (.b (.ptr j fo 0 0)))) =>
    (match P.underlying t with
     | some (.array n e) =>
       bif Nat.beq (P.cellsOf e) 1 && (P.info? e).isSome then
       (match hiB n h with | some (c, hi, hn) => (match cutOk l hi with | some (c2, ln) => .chk (c && c2) (Q (.b (.sl j fo ln 1 (subN hn ln) (some n))) [] nx) | none => .fail) | none => .fail) else .fail
     | _ => .fail)
  | _ => .fail
/-- what the bounds come to -/
theorem bounds_real {E : Env} {φ : Ph} {A : Nat → Prop} {l h : Option Operand} {n ln hn : Nat} {hi : Int} {c c2 : Bool} (hl : ∀ x, l = some x → ∀ vv, evV Ev x = some vv → RelV φ A vv (E.ev x)) (hh : ∀ x, h = some x → ∀ vv, evV Ev x = some vv → RelV φ A vv (E.ev x))
    (h1 : hiB n (optV Ev h) = some (c, hi, hn)) (h2 : cutOk (optV Ev l) hi = some (c2, ln)) (hc : (c && c2) = true) :
    ∃ cl ch, bnd E l 0 = some (ln, cl) ∧ bnd E h n = some (hn, ch) ∧ cl ∧ ch ∧ ln ≤ hn ∧ hn ≤ n := by
  simp only [Bool.and_eq_true] at hc
  obtain ⟨hc1, hc2⟩ := hc
  have key : (∃ ch, bnd E h n = some (hn, ch) ∧ (0 ≤ hi → ch)) ∧ (0 ≤ hi → hi.toNat = hn ∧ (hn : Int) = hi) ∧ (0 ≤ hi → hn ≤ n) := by
    cases h with
    | none =>
      simp only [optV, hiB, Option.some.injEq, Prod.mk.injEq] at h1
      obtain ⟨_, rfl, rfl⟩ := h1
      exact ⟨⟨True, rfl, fun _ => trivial⟩, fun _ => ⟨rfl, rfl⟩, fun _ => Nat.le_refl _⟩
    | some x =>
      simp only [optV] at h1
      unfold hiB at h1
      split at h1
      · rename_i hq; cases hq
      · rename_i k i hq
        simp only [Option.some.injEq] at hq
        simp only [Option.some.injEq, Prod.mk.injEq] at h1
        obtain ⟨e1, rfl, rfl⟩ := h1
        have hx : E.ev x = .int k i := hh x rfl _ hq
        have hin : i ≤ (n : Int) := by rw [← e1] at hc1; simpa using hc1
        exact ⟨⟨0 ≤ i, by simp only [bnd, hx], id⟩, fun h0 => ⟨rfl, by omega⟩, fun _ => by omega⟩
      · cases h1
  obtain ⟨⟨ch, k1, k2⟩, k3, k4⟩ := key
  cases l with
  | none =>
    simp only [optV, cutOk, Option.some.injEq, Prod.mk.injEq] at h2
    obtain ⟨e1, rfl⟩ := h2
    have h0 : 0 ≤ hi := by rw [← e1] at hc2; simpa using hc2
    exact ⟨True, ch, rfl, k1, trivial, k2 h0, Nat.zero_le _, k4 h0⟩
  | some x =>
    simp only [optV] at h2
    unfold cutOk at h2
    split at h2
    · rename_i hq; cases hq
    · rename_i k i hq
      simp only [Option.some.injEq] at hq
      simp only [Option.some.injEq, Prod.mk.injEq] at h2
      obtain ⟨e1, rfl⟩ := h2
      have hx : E.ev x = .int k i := hl x rfl _ hq
      have hin : 0 ≤ i ∧ i ≤ hi := by rw [← e1] at hc2; simpa using hc2
      have h0 : 0 ≤ hi := by omega
      have := k3 h0
      exact ⟨0 ≤ i, ch, by simp only [bnd, hx], k1, hin.1, k2 h0, by omega, k4 h0⟩
    · cases h2
theorem run_slice {t : TypeId} {x : Operand} {l h : Option Operand} {E : Env} {u : Value} {w : World} (ho : o.op = .slice t x l h none) (hr : (Instr.sliceAt t (E.ev x) (l.map E.ev) (h.map E.ev) none).run P w = .ok u w) : (execOp E.ev o).run P w = .ok (.value u) w := by
  unfold execOp; rw [ho]; simp only [Option.map_none, Sem.run_bind, hr, Result.andThen_ok, Sem.run_pure]
theorem run_sliceSl {t e : TypeId} {x : Operand} {l h : Option Operand} {E : Env} {w : World} {a : Option Addr} {n c ln hn : Nat} {cl ch : Prop} (ho : o.op = .slice t x l h none) (hu : P.underlying t = some (.slice e)) (hi : (P.info? e).isSome = true) (hx : E.ev x = .slice a n c)
    (h1 : bnd E l 0 = some (ln, cl)) (h2 : bnd E h n = some (hn, ch)) (h3 : cl) (h4 : ch) (h5 : ln ≤ hn) (h6 : hn ≤ c) :
    (execOp E.ev o).run P w = .ok (.value (.slice (if c = ln then a else a.map (·.add (ln * P.cellsOf e))) (hn - ln) (c - ln))) w := by
  obtain ⟨inf, hinf⟩ := Option.isSome_iff_exists.1 hi
  refine run_slice ho ?_
  rw [hx]
  unfold Instr.sliceAt Instr.slice
  simp only [Sem.run_bind, run_underlying hu, Result.andThen_ok, run_sliceBounds h1 h2 h3 h4 h5 h6, sizeOf, typeInfo, program, Sem.run, hinf, pure, cellsOf_info hinf]
theorem sliceV_spec {t : TypeId} {x : Operand} {l h : Option Operand} {r : SR} (ho : o.op = .slice t x l h none) (hr : PT.Ends (sliceV P t H lo (evV Ev x) (optV Ev l) (optV Ev h)) r) : OpS P Ev H lo o r := by
  have hxm : x ∈ o.op.operands := by rw [ho]; simp [Op.operands]
  have hlm : ∀ y, l = some y → y ∈ o.op.operands := by rintro y rfl; rw [ho]; simp [Op.operands]
  have hhm : ∀ y, h = some y → y ∈ o.op.operands := by rintro y rfl; rw [ho]; simp [Op.operands]
  unfold sliceV at hr
  split at hr
  · rename_i s ex
    split at hr
    · rename_i c hi hn hu h1
      split at hr
      · rename_i c2 ln h2
        obtain ⟨hc, h3⟩ := PT.ends_chk.1 hr
        cases h3
        refine OpS.quiet fun A φ H1 w E hO hH hg => ?_
        have e1 : E.ev x = .string s := hO x hxm _ ex
        obtain ⟨cl, ch, b1, b2, b3, b4, b5, b6⟩ := bounds_real (fun y hy => hO y (hlm y hy)) (fun y hy => hO y (hhm y hy)) h1 h2 hc
        refine ⟨_, run_slice ho (u := .string (s.extract ln hn)) ?_, rfl⟩
        rw [e1]
        unfold Instr.sliceAt Instr.slice
        simp only [Sem.run_bind, run_underlying hu, Result.andThen_ok, Option.isSome_none, Bool.false_eq_true, if_false, run_sliceBounds b1 b2 b3 b4 b5 b6, Sem.run_pure]
      · exact hr.elim
    · exact hr.elim
  · rename_i j ex
    split at hr
    · rename_i e n sz hu hrl hrs
      cases hcc : Nat.beq (P.cellsOf e) sz && (P.info? e).isSome with
      | false => rw [hcc] at hr; exact hr.elim
      | true =>
        rw [hcc] at hr
        simp only [Bool.and_eq_true] at hcc
        obtain ⟨hc1, hc2⟩ := hcc
        have hc1 := Nat.eq_of_beq_eq_true hc1
        subst hc1
        simp only [cond_true] at hr
        split at hr
        · rename_i c hi hn h1
          split at hr
          · rename_i c2 ln h2
            obtain ⟨hc, h3⟩ := PT.ends_chk.1 hr
            cases h3
            refine OpS.quiet fun A φ H1 w E hO hH hg => ?_
            obtain ⟨hA, e1, k1, k2⟩ := hO x hxm _ ex
            have hcl := clen_of hH (by rw [rowLen_agree (hg j (by simp))]; exact hrl)
            rw [hcl] at e1 k1
            obtain ⟨cl, ch, b1, b2, b3, b4, b5, b6⟩ := bounds_real (fun y hy => hO y (hlm y hy)) (fun y hy => hO y (hhm y hy)) h1 h2 hc
            refine ⟨_, run_sliceSl ho hu hc2 e1 b1 b2 b3 b4 b5 (by omega), hA, _, _, by rw [subN_eq], by rw [subN_eq]; omega, fun ha => ?_, fun ad ha => ?_, fun hp => ?_, by simp; omega, ?_⟩
            · split at ha
              · have := k2 ha; omega
              · cases hq : (φ j).addr with
                | none => have := k2 hq; omega
                | some ad => rw [hq] at ha; cases ha
            · split at ha
              · exact ⟨ad, ha, rfl⟩
              · cases hq : (φ j).addr with
                | none => rw [hq] at ha; cases ha
                | some ad0 => rw [hq] at ha; cases ha; exact ⟨ad0, rfl, by simp⟩
            · cases hq : (φ j).addr with
              | none => have := k2 hq; omega
              | some ad0 => exact ⟨ad0, rfl, by rw [if_neg (by omega)]; simp⟩
            · refine ⟨?_, fun _ h0 => ?_⟩
              · show ln + (subN hn ln) ≤ (φ j).clen
                rw [subN_eq, hcl]; omega
              · subst h0
                split
                · rfl
                · cases (φ j).addr <;> simp [Addr.add]
          · exact hr.elim
        · exact hr.elim
    · exact hr.elim
  · rename_i j fo i sz len top ex
    split at hr
    · rename_i e hu
      cases hcc : Nat.beq (P.cellsOf e) sz && (P.info? e).isSome with
      | false => rw [hcc] at hr; exact hr.elim
      | true =>
        rw [hcc] at hr
        simp only [Bool.and_eq_true] at hcc
        obtain ⟨hc1, hc2⟩ := hcc
        have hc1 := Nat.eq_of_beq_eq_true hc1
        subst hc1
        simp only [cond_true] at hr
        split at hr
        · rename_i c hi hn h1
          split at hr
          · rename_i c2 ln h2
            obtain ⟨hc, h3⟩ := PT.ends_chk.1 hr
            cases h3
            refine OpS.quiet fun A φ H1 w E hO hH hg => ?_
            obtain ⟨hA, a, cp, e1, k1, k2, k3, k4, k5, k6, k7⟩ := hO x hxm _ ex
            obtain ⟨cl, ch, b1, b2, b3, b4, b5, b6⟩ := bounds_real (fun y hy => hO y (hlm y hy)) (fun y hy => hO y (hhm y hy)) h1 h2 hc
            refine ⟨_, run_sliceSl ho hu hc2 e1 b1 b2 b3 b4 b5 (by omega), hA, _, _, by rw [subN_eq], by rw [subN_eq]; omega, fun ha => ?_, fun ad ha => ?_, fun hp => ?_, by omega, ?_⟩
            · split at ha
              · have := k2 ha; omega
              · cases a with
                | none => have := k2 rfl; omega
                | some ad => cases ha
            · split at ha
              · exact k3 ad ha
              · cases a with
                | none => cases ha
                | some ad1 => cases ha; obtain ⟨ad0, q1, q2⟩ := k3 ad1 rfl; exact ⟨ad0, q1, by simpa using q2⟩
            · obtain ⟨ad0, q1, q2⟩ := k4 (by omega)
              refine ⟨ad0, q1, ?_⟩
              rw [if_neg (by omega), q2]
              simp only [Option.map_some, add_add]
              rw [Nat.add_mul, Nat.add_assoc]
            · refine ⟨by rw [subN_eq]; omega, fun h0 h1 => ?_⟩
              obtain rfl : ln = 0 := by omega
              rw [← k7 h0 (by omega)]
              split
              · rfl
              · cases a <;> simp [Addr.add]
          · exact hr.elim
        · exact hr.elim
    · exact hr.elim
  · rename_i ex
    split at hr
    · rename_i e hu
      cases hc2 : (P.info? e).isSome with
      | false => rw [hc2] at hr; exact hr.elim
      | true =>
        rw [hc2] at hr
        simp only [cond_true] at hr
        split at hr
        · rename_i c hi hn h1
          split at hr
          · rename_i c2 ln h2
            obtain ⟨hc, h3⟩ := PT.ends_chk.1 hr
            cases h3
            refine OpS.quiet fun A φ H1 w E hO hH hg => ?_
            have e1 : E.ev x = .slice none 0 0 := hO x hxm _ ex
            obtain ⟨cl, ch, b1, b2, b3, b4, b5, b6⟩ := bounds_real (fun y hy => hO y (hlm y hy)) (fun y hy => hO y (hhm y hy)) h1 h2 hc
            refine ⟨_, run_sliceSl ho hu hc2 e1 b1 b2 b3 b4 b5 b6, ?_⟩
            obtain rfl : hn = 0 := by omega
            obtain rfl : ln = 0 := by omega
            rfl
          · exact hr.elim
        · exact hr.elim
    · exact hr.elim
  · rename_i j fo ex
    split at hr
    · rename_i n e hu
      cases hcc : Nat.beq (P.cellsOf e) 1 && (P.info? e).isSome with
      | false => rw [hcc] at hr; exact hr.elim
      | true =>
        rw [hcc] at hr
        simp only [Bool.and_eq_true] at hcc
        obtain ⟨hc1, hc2⟩ := hcc
        have hc1 := Nat.eq_of_beq_eq_true hc1
        simp only [cond_true] at hr
        split at hr
        · rename_i c hi hn h1
          split at hr
          · rename_i c2 ln h2
            obtain ⟨hc, h3⟩ := PT.ends_chk.1 hr
            cases h3
            refine OpS.quiet fun A φ H1 w E hO hH hg => ?_
            obtain ⟨hA, ad, q1, q2⟩ := hO x hxm _ ex
            obtain ⟨cl, ch, b1, b2, b3, b4, b5, b6⟩ := bounds_real (fun y hy => hO y (hlm y hy)) (fun y hy => hO y (hhm y hy)) h1 h2 hc
            obtain ⟨inf, hinf⟩ := Option.isSome_iff_exists.1 hc2
            have hz : inf.size = 1 := by rw [← cellsOf_info hinf]; exact hc1
            refine ⟨.slice (some (if n = ln then ad.add (fo + 0 * 0) else (ad.add (fo + 0 * 0)).add (ln * 1))) (hn - ln) (n - ln), run_slice ho ?_, hA, _, _, by rw [subN_eq], by rw [subN_eq]; omega, fun ha => (by cases ha), fun ad' ha => ?_, fun hp => ?_, by simp; omega, ?_⟩
            · rw [q2]
              unfold Instr.sliceAt
              simp only [Sem.run_bind, run_underlying hu, Result.andThen_ok, run_sliceBounds b1 b2 b3 b4 b5 b6, sizeOf, typeInfo, program, Sem.run, hinf, pure, Instr.sureAddr, hz]
            · cases ha
              refine ⟨ad, q1, ?_⟩
              split <;> simp
            · refine ⟨ad, q1, ?_⟩
              rw [if_neg (by omega), add_add]; simp
            · refine ⟨by show ln + subN hn ln ≤ n; rw [subN_eq]; omega, fun h0 h1 => ?_⟩
              subst h0; subst h1
              rw [q1]
              split <;> simp [Addr.add]
          · exact hr.elim
        · exact hr.elim
    · exact hr.elim
  · exact hr.elim
/-- the length of a row that is full -/
def rowFull (H : Hp) (j : Nat) : Option Nat := match H.get j with | some (.own _ _ l true) => some (List.length l) | _ => none
theorem rowFull_agree {H1 : Hp} {j : Nat} (hg : H1.get j = H.get j) : rowFull H1 j = rowFull H j := by unfold rowFull; rw [hg]
theorem rowFull_spec {A : Nat → Prop} {φ : Ph} {H1 : Hp} {w : World} (h : RepH A φ H1 w) {j n : Nat} (hn : rowFull H1 j = some n) : (φ j).clen = n ∧ (φ j).cap = n ∧ ((φ j).addr = none → (φ j).cap = 0) := by
  unfold rowFull at hn
  split at hn
  · rename_i hgj; cases hn
    obtain ⟨_, _, _, h5, h6, h7, _⟩ := h.obj j _ hgj; exact ⟨h5, h6 rfl, h7⟩
  · cases hn
/-- a window of a row that is full, cut up to its capacity -/
def recapV (P : Program) (t : TypeId) (H : Hp) (nx j i sz : Nat) (l : Option (Option VV)) (h : Option VV) : PT SR :=
  match P.underlying t, rowFull H j with
  | some (.slice e), some n =>
    bif Nat.beq (P.cellsOf e) sz && (P.info? e).isSome then
      (match hiB (n - i) (some h) with | some (c, hi, hn) => (match cutOk l hi with | some (c2, ln) => .chk (c && c2) (Q (.b (.sl j 0 (i + ln) sz (subN hn ln) none)) [j] nx) | none => .fail) | none => .fail) else .fail
  | _, _ => .fail
theorem recapV_spec {t : TypeId} {x y : Operand} {l : Option Operand} {j i sz len : Nat} {r : SR} (ho : o.op = .slice t x l (some y) none) (ex : evV Ev x = some (.a (.one (.b (.sl j 0 i sz len none))))) (hr : PT.Ends (recapV P t H lo j i sz (optV Ev l) (evV Ev y)) r) : OpS P Ev H lo o r := by
  have hxm : x ∈ o.op.operands := by rw [ho]; simp [Op.operands]
  have hlm : ∀ y, l = some y → y ∈ o.op.operands := by rintro y rfl; rw [ho]; simp [Op.operands]
  have hhm : ∀ z, some y = some z → z ∈ o.op.operands := by rintro z e; cases e; rw [ho]; simp [Op.operands]
  unfold recapV at hr
  split at hr
  · rename_i e n hu hfl
    cases hcc : Nat.beq (P.cellsOf e) sz && (P.info? e).isSome with
    | false => rw [hcc] at hr; exact hr.elim
    | true =>
      rw [hcc] at hr
      simp only [Bool.and_eq_true] at hcc
      obtain ⟨hc1, hc2⟩ := hcc
      have hc1 := Nat.eq_of_beq_eq_true hc1
      subst hc1
      simp only [cond_true] at hr
      split at hr
      · rename_i c hi hn h1
        split at hr
        · rename_i c2 ln h2
          obtain ⟨hc, h3⟩ := PT.ends_chk.1 hr
          cases h3
          refine OpS.quiet fun A φ H1 w E hO hH hg => ?_
          obtain ⟨hA, a, cp, e1, k1, k2, k3, k4, k5, k6, k7⟩ := hO x hxm _ ex
          obtain ⟨f1, f2, f3⟩ := rowFull_spec hH (by rw [rowFull_agree (hg j (by simp))]; exact hfl)
          have k5' : i + cp = n := by simpa [f2] using k5
          obtain ⟨cl, ch, b1, b2, b3, b4, b5, b6⟩ := bounds_real (h := some y) (fun y hy => hO y (hlm y hy)) (fun y hy => hO y (hhm y hy)) h1 h2 hc
          have b2' : bnd E (some y) len = some (hn, ch) := b2
          refine ⟨_, run_sliceSl ho hu hc2 e1 b1 b2' b3 b4 b5 (by omega), hA, _, _, by rw [subN_eq], by rw [subN_eq]; omega, fun ha => ?_, fun ad ha => ?_, fun hp => ?_, by show i + ln + (cp - ln) = (φ j).cap; omega, ?_⟩
          · split at ha
            · have := k2 ha; omega
            · cases a with
              | none => have := k2 rfl; omega
              | some ad => cases ha
          · split at ha
            · exact k3 ad ha
            · cases a with
              | none => cases ha
              | some ad1 => cases ha; obtain ⟨ad0, q1, q2⟩ := k3 ad1 rfl; exact ⟨ad0, q1, by simpa using q2⟩
          · obtain ⟨ad0, q1, q2⟩ := k4 (by omega)
            refine ⟨ad0, q1, ?_⟩
            rw [if_neg (by omega), q2]
            simp only [Option.map_some, add_add]
            rw [Nat.add_mul, Nat.add_assoc]
          · refine ⟨by show i + ln + subN hn ln ≤ (φ j).clen; rw [subN_eq]; omega, fun h0 h1 => ?_⟩
            obtain rfl : ln = 0 := by omega
            rw [← k7 h0 (by omega)]
            split
            · rfl
            · cases a <;> simp [Addr.add]
        · exact hr.elim
      · exact hr.elim
  · exact hr.elim
def sliceSel (P : Program) (t : TypeId) (H : Hp) (nx : Nat) (x : Option VV) (l h : Option (Option VV)) : PT SR :=
  match x, h with
  | some (.a (.one (.b (.sl j 0 i sz len none)))), some hv => (match rowFull H j with
    | some _ => recapV P t H nx j i sz l hv
    | none => sliceV P t H nx (some (.a (.one (.b (.sl j 0 i sz len none))))) l (some hv))
  | x, h => sliceV P t H nx x l h
theorem sliceSel_spec {t : TypeId} {x : Operand} {l h : Option Operand} {r : SR} (ho : o.op = .slice t x l h none) (hr : PT.Ends (sliceSel P t H lo (evV Ev x) (optV Ev l) (optV Ev h)) r) : OpS P Ev H lo o r := by
  unfold sliceSel at hr
  split at hr
  · rename_i j i sz len hv ex eh
    cases h with
    | none => cases eh
    | some y =>
      have eh' : evV Ev y = hv := by simpa [optV] using eh
      split at hr
      · rw [← eh'] at hr; exact recapV_spec ho ex hr
      · refine sliceV_spec ho ?_
        rw [ex, eh]; exact hr
  · exact sliceV_spec ho hr
end
end Go.Sat
end
section
namespace Go.Sat
open Go

section
variable {P : Program} {Ev : VEnv} {H : Hp} {lo : Nat} {o : Oper}

theorem run_of {E : Env} {w w' : World} {u : Value} {s : Sem Value} (he : execOp E.ev o = (do pure (Next.value (← s)))) (h : s.run P w = .ok u w') : (execOp E.ev o).run P w = .ok (.value u) w' := by
  rw [he]; simp only [Sem.run_bind, h, Result.andThen_ok, Sem.run_pure]
theorem run_ofU {E : Env} {w w' : World} {s : Sem Unit} (he : execOp E.ev o = (do s; pure Next.skip)) (h : s.run P w = .ok () w') : (execOp E.ev o).run P w = .ok .skip w' := by
  rw [he]; simp only [Sem.run_bind, h, Result.andThen_ok, Sem.run_pure]

/-! ### new objects -/
def upd (φ : Ph) (j : Nat) (b : Bs) : Ph := fun i => if i = j then b else φ i
theorem upd_same (φ : Ph) (j : Nat) (b : Bs) : upd φ j b j = b := if_pos rfl
theorem upd_ne (φ : Ph) {i j : Nat} (b : Bs) (h : i ≠ j) : upd φ j b i = φ i := if_neg h
def plus (A : Nat → Prop) (j : Nat) : Nat → Prop := fun i => A i ∨ i = j
theorem agree_upd {A : Nat → Prop} {φ : Ph} {j : Nat} {b : Bs} (h : ¬ A j) : Agree φ (upd φ j b) A (plus A j) := fun i hi => ⟨upd_ne _ _ fun e => h (e ▸ hi), .inl hi⟩
theorem get_one {j i : Nat} {ob x : Obj} (h : Hp.get [(j, ob)] i = some x) : i = j ∧ x = ob := by
  have h' : (bif Nat.beq j i then some ob else none) = some x := h
  cases hb : Nat.beq j i with
  | false => rw [hb] at h'; cases h'
  | true => rw [hb] at h'; cases h'; exact ⟨(Nat.eq_of_beq_eq_true hb).symm, rfl⟩
theorem get_self (j : Nat) (ob : Obj) (r : Hp) : Hp.get ((j, ob) :: r) j = some ob := by simp [Hp.get]
theorem get_ne {j i : Nat} (ob : Obj) (r : Hp) (h : j ≠ i) : Hp.get ((j, ob) :: r) i = Hp.get r i := by
  simp only [Hp.get, nbeq h, cond_false]
/-- one object more -/
theorem Stp.new {A : Nat → Prop} {φ : Ph} {H1 : Hp} {w w' : World} {b : Bs} {ob : Obj} (h : RepH A φ H1 w) (hl : ¬ A lo) (he : Grow w w') (hb : ∀ ad, b.addr = some ad → w.heap.size ≤ ad.block)
    (ho : ∀ N' : Nat → Prop, Kept (MB φ H1) N' w w' → RepO (upd φ lo b) (plus A lo) N' w' b ob) : Stp A φ H1 w (plus A lo) (upd φ lo b) ([(lo, ob)] ++ H1) w' := by
  refine h.lay (agree_upd hl) he.any (fun j x hj => ?_) (fun j x ad hn hH hm ha => he.same _ ((h.obj j x hH).low hm ha) id) (fun j j' x x' ad ad' hne hj hj' => ?_) (fun N' hk _ _ _ j x hj => ?_)
  · obtain ⟨rfl, rfl⟩ := get_one hj
    exact ⟨.inr rfl, fun _ ad ha => .inl (hb ad (by rw [← ha, upd_same]))⟩
  · obtain ⟨rfl, _⟩ := get_one hj; obtain ⟨rfl, _⟩ := get_one hj'; exact absurd rfl hne
  · obtain ⟨rfl, rfl⟩ := get_one hj
    rw [upd_same]; exact ho N' hk
/-- contents that are opened -/
theorem Stp.opened {A A' : Nat → Prop} {φ φ' : Ph} {H1 u : Hp} {w : World} {hi : Nat} (h : RepH A φ H1 w) (ho : Opened A φ (MB φ H1) w lo hi u A' φ') : Stp A φ H1 w A' φ' (u ++ H1) w := by
  refine h.lay ho.agree (Ext.refl _ _) (fun j x hj => ?_) (fun _ _ _ _ _ _ _ => rfl) (fun j j' x x' ad ad' hne hj hj' hm => ?_) (fun N' hk _ _ _ j x hj => ?_)
  · obtain ⟨_, _, h3, h4, _⟩ := ho.objs j x hj
    exact ⟨h3, fun hm => by rw [h4] at hm; cases hm⟩
  · obtain ⟨_, _, _, h4, _⟩ := ho.objs j x hj; rw [h4] at hm; cases hm
  · exact (ho.objs j x hj).2.2.2.2 N' w hk
/-- an object is turned in place -/
theorem Stp.turn {A : Nat → Prop} {φ : Ph} {H1 : Hp} {w w' : World} {j : Nat} {ob ob' : Obj} (h : RepH A φ H1 w) (hg : H1.get j = some ob) (hm : ob.mut = true) (he : ∀ k, k < w.heap.size → (∀ ad, (φ j).addr = some ad → k ≠ ad.block) → w'.heap[k]? = w.heap[k]?)
    (hx : Ext (MB φ H1) w w') (ho : ∀ N' : Nat → Prop, Kept (MB φ H1) N' w w' → RepO φ A N' w' (φ j) ob') : Stp A φ H1 w A φ ([(j, ob')] ++ H1) w' := by
  refine h.lay (.refl _ _) hx (fun i x hi => ?_) (fun i x ad hn hH hm' ha => ?_) (fun i i' x x' ad ad' hne hi hi' => ?_) (fun N' hk _ _ _ i x hi => ?_)
  · obtain ⟨rfl, rfl⟩ := get_one hi
    refine ⟨h.dom _ _ hg, fun _ ad ha => .inr ⟨i, ob, by rw [get_self]; rfl, hg, hm, by rw [ha]; rfl⟩⟩
  · have hij : i ≠ j := fun e => by subst e; rw [get_self] at hn; cases hn
    refine he _ ((h.obj i x hH).low hm' ha) fun ad' ha' => ?_
    exact h.sep i j x ob ad ad' hij hH hg hm' hm ha ha'
  · obtain ⟨rfl, _⟩ := get_one hi; obtain ⟨rfl, _⟩ := get_one hi'; exact absurd rfl hne
  · obtain ⟨rfl, rfl⟩ := get_one hi
    exact ho N' hk

/-! ### loads -/
theorem packV_load {T : TypeId} {ss : List Seg} {v : AV} {A : Nat → Prop} {φ : Ph} {cs : List Value} {ad : Addr} {w : World} (h : packV P T ss = some v) (hs : RelG φ A ss cs) (hl : cs.length = P.cellsOf T)
    (hc : ∀ q u, cs[q]? = some u → w.cell? (ad.add q) = some u) : ∃ u, (loadVar T ad).run P w = .ok u w ∧ RelA φ A v u := by
  unfold packV at h
  cases h1 : oneT P T with
  | true =>
    rw [h1] at h
    simp only [cond_true] at h
    split at h
    · cases h
      obtain ⟨c, cs', e, h2, h3, h4⟩ := hs
      refine ⟨c, loadVar_one h1 ?_, h2⟩
      have := hc 0 c (by rw [e]; rfl)
      simpa [add_zero] using this
    · cases h
  | false =>
    rw [h1] at h
    simp only [cond_false] at h
    cases h2 : aggT P T with
    | false => rw [h2] at h; cases h
    | true =>
      rw [h2] at h
      cases h
      exact ⟨_, loadVar_agg h2 hl.symm hc, _, rfl, hs⟩
def loadRow (P : Program) (T : TypeId) (t : Ty) (l : List t.den) (j fo i sz nx : Nat) : PT SR :=
  bif Nat.beq sz t.size then .bind (l[i]?) fun x =>
    match openT t x nx with
    | (ss, u, nx') => (match segSub ss fo (P.cellsOf T) with
      | some s2 => (match packV P T s2 with | some v => .ret ⟨.a v, u, [j], nx'⟩ | none => .fail)
      | none => .fail)
  else .fail
def loadV (P : Program) (T : TypeId) (H : Hp) (nx : Nat) (x : Option VV) : PT SR :=
  match x with
  | some (.a (.one (.b (.ptr j fo i sz)))) =>
    (match H.get j with
     | some (.fblk _ l) =>
       (match sz with
        | 0 => (match segSub l fo (P.cellsOf T) with
          | some ss => (match packV P T ss with | some v => Q (.a v) [j] nx | none => .fail)
          | none => .fail)
        | _ => .fail)
     | some (.blk _ l) =>
       (match sz with
        | 0 => (match segSub l fo (P.cellsOf T) with
          | some ss => (match packV P T ss with | some v => Q (.a v) [j] nx | none => .fail)
          | none => .fail)
        | _ => (match arrIn l fo with
          | some (k, ⟨_, a⟩) => bif Nat.beq sz 1 && oneT P T then .bind (a.l[i]?) fun x => Q (.int k x) [j] nx else .fail
          | none => .fail))
     | some (.own t _ l _) => loadRow P T t l j fo i sz nx
     | some (.ro t l) => loadRow P T t l j fo i sz nx
     | _ => .fail)
  | _ => .fail
theorem load_he {T : TypeId} {x : Operand} {E : Env} {ad : Addr} (ho : o.op = .load T x) (hx : E.ev x = .pointer (some ad)) : execOp E.ev o = (do pure (Next.value (← loadVar T ad))) := by
  unfold execOp; rw [ho]
  simp only [hx, Instr.loadAt, Instr.sureAddr]
  rfl
theorem openT_le (t : Ty) : ∀ (x : t.den) (n : Nat), n ≤ (openT t x n).2.2 := by
  induction t with
  | pr a b iha ihb => intro x n; exact Nat.le_trans (iha x.1 n) (ihb x.2 _)
  | sl t => intro x n; exact Nat.le_succ _
  | _ => intro x n; exact Nat.le_refl _
theorem rowAll_get {H1 : Hp} {j : Nat} {t : Ty} {l : List t.den} (h : (∃ e f, H1.get j = some (.own t e l f)) ∨ H1.get j = some (.ro t l)) : rowAll H1 j t = some l := by
  unfold rowAll
  rcases h with ⟨e, f, h⟩ | h <;> rw [h] <;> simp [castL]
theorem loadRow_spec {T : TypeId} {x : Operand} {r : SR} {j fo i sz : Nat} {t : Ty} {l : List t.den} (ho : o.op = .load T x) (ex : evV Ev x = some (.a (.one (.b (.ptr j fo i sz))))) (hl : rowAll H j t = some l) (h : PT.Ends (loadRow P T t l j fo i sz lo) r) : OpS P Ev H lo o r := by
  unfold loadRow at h
  cases hs : Nat.beq sz t.size with
  | false => rw [hs] at h; exact h.elim
  | true =>
    rw [hs] at h
    have hs := Nat.eq_of_beq_eq_true hs
    subst hs
    obtain ⟨y, hy, h⟩ := h
    obtain ⟨ss, u, nx', eo⟩ : ∃ ss u nx', openT t y lo = (ss, u, nx') := ⟨_, _, _, rfl⟩
    simp only [eo] at h
    split at h
    · rename_i s2 hs2
      split at h
      · rename_i v hv
        cases h
        have hle : lo ≤ nx' := by have := openT_le t y lo; rw [eo] at this; exact this
        refine ⟨hle, fun A φ H1 w E hO hH hr hf => ?_⟩
        obtain ⟨hA, ad, ha, ev⟩ := hO x (by rw [ho]; simp [Op.operands]) _ ex
        obtain ⟨_, _, _, _, _, css, hc, hR⟩ := rowAll_spec hH (by rw [rowAll_agree (hr j (by simp))]; exact hl)
        obtain ⟨cs, _, hd, hcut⟩ := flat_get (fun _ _ h => RepD.len h) hc hy
        have hop := openT_spec (A := A) (φ := φ) (lo := lo) hd (by rw [eo]; exact hf)
        rw [eo] at hop
        obtain ⟨A', φ', hop, hG⟩ := hop
        obtain ⟨hG2, hle2⟩ := hG.sub hs2
        have hl2 : ((cs.drop fo).take (P.cellsOf T)).length = P.cellsOf T := by rw [List.length_take, List.length_drop]; omega
        obtain ⟨u', h1, h2⟩ := packV_load (P := P) (ad := ad.add (fo + i * t.size)) (w := w) hv hG2 hl2 (fun q v' hq => by
          have hqm : q < P.cellsOf T := by have := (List.getElem?_eq_some_iff.1 hq).1; omega
          rw [List.getElem?_take_of_lt hqm, List.getElem?_drop] at hq
          have hqs : fo + q < t.size := by have := (List.getElem?_eq_some_iff.1 hq).1; rw [RepD.len hd] at this; exact this
          rw [← hcut, List.getElem?_take_of_lt hqs, List.getElem?_drop] at hq
          obtain ⟨ad', e', h'⟩ := hR _ _ hq
          rw [ha] at e'; cases e'
          rw [add_add, show fo + i * t.size + q = i * t.size + (fo + q) by omega]; exact h')
        exact Does.value (run_of (load_he ho ev) h1) ⟨A', φ', h2, Stp.opened hH hop, hop.only⟩
      · exact h.elim
    · exact h.elim
theorem loadV_spec {T : TypeId} {x : Operand} {r : SR} (ho : o.op = .load T x) (h : PT.Ends (loadV P T H lo (evV Ev x)) r) : OpS P Ev H lo o r := by
  unfold loadV at h
  split at h
  · rename_i j fo i sz ex
    split at h
    · rename_i T0 l hg
      split at h
      · split at h
        · rename_i ss hss
          split at h
          · rename_i v hv
            cases h
            refine OpS.quiet fun A φ H1 w E hO hH hr => ?_
            obtain ⟨hA, ad, ha, ev⟩ := hO x (by rw [ho]; simp [Op.operands]) _ ex
            obtain ⟨g, cs, e1, hB, hG, _⟩ := hH.obj j _ (by rw [hr j (by simp)]; exact hg)
            rw [e1] at ha; cases ha
            obtain ⟨hG2, hle⟩ := hG.sub hss
            obtain ⟨u, h1, h2⟩ := packV_load (P := P) (ad := (⟨g, 0, none⟩ : Addr).add (fo + i * 0)) (w := w) hv hG2 (by rw [List.length_take, List.length_drop]; omega) (fun q v' hq => by
              have hqm : q < P.cellsOf T := by have := (List.getElem?_eq_some_iff.1 hq).1; rw [List.length_take] at this; omega
              rw [List.getElem?_take_of_lt hqm, List.getElem?_drop] at hq
              rw [add_mk, add_mk, hB.cell]; simpa using hq)
            exact ⟨u, run_of (load_he ho ev) h1, h2⟩
          · exact h.elim
        · exact h.elim
      · exact h.elim
    · rename_i T0 l hg
      split at h
      · split at h
        · rename_i ss hss
          split at h
          · rename_i v hv
            cases h
            refine OpS.quiet fun A φ H1 w E hO hH hr => ?_
            obtain ⟨hA, ad, ha, ev⟩ := hO x (by rw [ho]; simp [Op.operands]) _ ex
            obtain ⟨g, cs, e1, hB, hG⟩ := hH.obj j _ (by rw [hr j (by simp)]; exact hg)
            rw [e1] at ha; cases ha
            obtain ⟨hG2, hle⟩ := hG.sub hss
            obtain ⟨u, h1, h2⟩ := packV_load (P := P) (ad := (⟨g, 0, none⟩ : Addr).add (fo + i * 0)) (w := w) hv hG2 (by rw [List.length_take, List.length_drop]; omega) (fun q v' hq => by
              have hqm : q < P.cellsOf T := by have := (List.getElem?_eq_some_iff.1 hq).1; rw [List.length_take] at this; omega
              rw [List.getElem?_take_of_lt hqm, List.getElem?_drop] at hq
              rw [add_mk, add_mk, hB.cell]; simpa using hq)
            exact ⟨u, run_of (load_he ho ev) h1, h2⟩
          · exact h.elim
        · exact h.elim
      · split at h
        · rename_i k n a harr
          cases hc : Nat.beq sz 1 && oneT P T with
          | false => rw [hc] at h; exact h.elim
          | true =>
            rw [hc] at h
            simp only [Bool.and_eq_true] at hc
            have hs := Nat.eq_of_beq_eq_true hc.1
            subst hs
            obtain ⟨y, hy, h⟩ := h
            cases h
            refine OpS.quiet fun A φ H1 w E hO hH hr => ?_
            obtain ⟨hA, ad, ha, ev⟩ := hO x (by rw [ho]; simp [Op.operands]) _ ex
            obtain ⟨g, cs, e1, hB, hG⟩ := hH.obj j _ (by rw [hr j (by simp)]; exact hg)
            rw [e1] at ha; cases ha
            unfold arrIn at harr
            split at harr
            · rename_i hd
              cases harr
              obtain ⟨⟨cs', e2, _⟩, hle⟩ := hG.drop hd
              refine ⟨.int k y, run_of (load_he ho ev) (loadVar_one hc.2 ?_), rfl⟩
              rw [add_mk, hB.cell]
              have : (cs.drop fo)[i]? = some (.int k y) := by rw [e2, List.getElem?_append_left (by rw [length_ints]; exact (List.getElem?_eq_some_iff.1 hy).1)]; simp [ints, hy]
              rw [List.getElem?_drop] at this
              simpa using this
            · cases harr
        · exact h.elim
    · rename_i t e l f hg
      exact loadRow_spec ho ex (rowAll_get (.inl ⟨e, f, hg⟩)) h
    · rename_i t l hg
      exact loadRow_spec ho ex (rowAll_get (.inr hg)) h
    · exact h.elim
  · exact h.elim

/-! ### variables -/
inductive Lay | one | arr (k : IntKind) (n : Nat)
def catO {α : Type} : List (Option (List α)) → Option (List α)
  | [] => some []
  | none :: _ => none
  | some l :: r => (match catO r with | some m => some (l ++ m) | none => none)
def layout (P : Program) : Nat → TypeId → Option (List Lay)
  | 0, _ => none
  | d + 1, T =>
    match P.underlying T with
    | some (.array n e) => (match P.underlying e with | some (.int k) => some [.arr k n] | _ => none)
    | some (.struct fs) => catO (fs.toList.map fun f => layout P d f.type)
    | some _ => some [.one]
    | none => none
def zerosAt (k : IntKind) : Nat → List Value → Option (List Value)
  | 0, cs => some cs
  | n + 1, .int k' 0 :: cs => if k' = k then zerosAt k n cs else none
  | _ + 1, _ => none
def parse : List Lay → List Value → Option (List Seg)
  | [], [] => some []
  | [], _ :: _ => none
  | .one :: r, c :: cs => (match evC c with | some (.a (.one s)) => (match parse r cs with | some l => bif one' c then some (.one s :: l) else none | none => none) | _ => none)
  | .one :: _, [] => none
  | .arr k n :: r, cs => (match zerosAt k n cs with | some cs' => (match parse r cs' with | some l => some (.arr k n (Arr.zero n) :: l) | none => none) | none => none)
theorem zerosAt_spec {k : IntKind} {n : Nat} {cs cs' : List Value} (h : zerosAt k n cs = some cs') : cs = ints k (Arr.zero n).l ++ cs' := by
  induction n generalizing cs with
  | zero => simp only [zerosAt, Option.some.injEq] at h; subst h; rfl
  | succ n ih =>
    unfold zerosAt at h
    split at h
    · cases ‹n + 1 = 0›
    · rename_i k' r e
      cases e
      split at h
      · rename_i hk; subst hk
        have := ih h
        rw [this]
        simp [Arr.zero, ints, List.replicate_succ]
      · cases h
    · cases h
theorem parse_spec {ly : List Lay} : ∀ {cs : List Value} {ss : List Seg}, parse ly cs = some ss → ∀ φ A, RelG φ A ss cs := by
  induction ly with
  | nil =>
    intro cs ss h φ A
    cases cs with
    | nil => cases h; rfl
    | cons c cs => cases h
  | cons x r ih =>
    intro cs ss h φ A
    cases x with
    | one =>
      cases cs with
      | nil => cases h
      | cons c cs =>
        unfold parse at h
        split at h
        · rename_i s hs
          split at h
          · rename_i l hl
            cases hb : one' c with
            | false => rw [hb] at h; cases h
            | true =>
              rw [hb] at h; cases h
              exact ⟨c, cs, rfl, evC_spec hs φ A, hb, ih hl φ A⟩
          · cases h
        · cases h
    | arr k n =>
      unfold parse at h
      split at h
      · rename_i cs' hz
        split at h
        · rename_i l hl
          cases h
          exact ⟨cs', zerosAt_spec hz, ih hl φ A⟩
        · cases h
      · cases h
def zeroSegs (P : Program) (T : TypeId) : Option (List Seg) :=
  match zeroOf P T, layout P 20 T with
  | some zs, some ly => parse ly zs
  | _, _ => none
def newBs (b : Nat) : Bs := ⟨some ⟨b, 0, none⟩, 0, 0⟩
def allocV (P : Program) (T : TypeId) (nx : Nat) : PT SR :=
  match zeroSegs P T with
  | some ss => .ret ⟨.b (.ptr nx 0 0 0), [(nx, .blk T ss)], [], nx + 1⟩
  | none => .fail
theorem does_eq {E : Env} {w : World} {K : Value → World → Prop} (h : Does P (mkO o.op o.type) E w K) : Does P o E w K := h
theorem new_blk {A : Nat → Prop} {φ : Ph} {H1 : Hp} {w w' : World} {b : Nat} {cs : List Value} {T : TypeId} {ss : List Seg} (hH : RepH A φ H1 w) (hf : Fresh A lo (lo + 1)) (hb : w.heap.size = b) (hg : Grow w w') (hB : Blk w' b cs T) (hs : ∀ φ' A', Agree φ φ' A A' → RelG φ' A' ss cs) :
    ∃ A' φ', RelV φ' A' (.b (.ptr lo 0 0 0)) (.pointer (some ⟨b, 0, none⟩)) ∧ Stp A φ H1 w A' φ' ([(lo, .blk T ss)] ++ H1) w' ∧ ∀ j, A' j → A j ∨ (lo ≤ j ∧ j < lo + 1) := by
  have hl : ¬ A lo := hf lo (Nat.le_refl _) (Nat.lt_succ_self _)
  refine ⟨plus A lo, upd φ lo (newBs b), ⟨.inr rfl, ⟨b, 0, none⟩, by rw [upd_same]; rfl, rfl⟩, Stp.new hH hl hg (fun ad ha => ?_) (fun N' hk => ⟨b, cs, rfl, hB, hs _ _ (agree_upd hl)⟩), fun j hj => hj.imp id fun e => by omega⟩
  cases ha; exact Nat.le_of_eq hb
theorem allocV_spec {T : TypeId} {r : SR} (ho : o.op = .alloc T) (h : PT.Ends (allocV P T lo) r) : OpS P Ev H lo o r := by
  unfold allocV at h
  split at h
  · rename_i ss hs
    cases h
    unfold zeroSegs at hs
    split at hs
    · rename_i zs ly hz hly
      refine ⟨Nat.le_succ _, fun A φ H1 w E hO hH hr hf => does_eq ?_⟩
      rw [ho]
      exact Does.alloc hz fun b w' hb hg hB => new_blk hH hf hb hg hB fun φ' A' _ => parse_spec hs φ' A'
    · cases hs
  · exact h.elim
/-- the cells of a value -/
def toSegs : VV → Option (List Seg)
  | .a (.one (.b .undef)) => none
  | .a (.one s) => some [.one s]
  | .a (.agg l) => some l
  | .tup _ => none
theorem RelS.one {φ : Ph} {A : Nat → Prop} {s : SV} {v : Value} (h : RelS φ A s v) (hs : s ≠ .b .undef) : one' v = true := by
  cases s with
  | fn f fs cs => obtain ⟨vs, us, rfl, _⟩ := h; rfl
  | yld j => obtain ⟨_, g, _, rfl⟩ := h; rfl
  | b x =>
    cases x with
    | undef => exact absurd rfl hs
    | raw y => rw [show v = y from h.1]; exact h.2
    | row j => rw [show v = _ from h.2.1]; rfl
    | sl j fo i sz len top => obtain ⟨_, a, c, rfl, _⟩ := h; rfl
    | ptr j fo i sz => obtain ⟨_, ad, _, rfl⟩ := h; rfl
    | map j => obtain ⟨_, ad, _, rfl⟩ := h; rfl
    | _ => rw [show v = _ from h]; rfl
theorem cells_one {v : Value} (h : one' v = true) : v.cells.toList = [v] := by cases v <;> first | rfl | cases h
theorem toSegs_spec {φ : Ph} {A : Nat → Prop} {vv : VV} {v : Value} {ss : List Seg} (h : toSegs vv = some ss) (hv : RelV φ A vv v) : RelG φ A ss v.cells.toList := by
  unfold toSegs at h
  split at h
  · cases h
  · rename_i s hne
    cases h
    have ho := RelS.one (φ := φ) (A := A) hv hne
    rw [cells_one ho]
    exact ⟨v, [], rfl, hv, ho, rfl⟩
  · cases h
    obtain ⟨cs, rfl, hG⟩ := hv
    simpa [Value.cells] using hG
  · cases h
def boxV (T : TypeId) (nx : Nat) (x : Option VV) : PT SR :=
  match x with
  | some vv => (match toSegs vv with | some ss => .ret ⟨.b (.ptr nx 0 0 0), [(nx, .blk T ss)], [], nx + 1⟩ | none => .fail)
  | none => .fail
theorem boxV_spec {T : TypeId} {x : Operand} {r : SR} (ho : o.op = .box T x) (h : PT.Ends (boxV T lo (evV Ev x)) r) : OpS P Ev H lo o r := by
  unfold boxV at h
  split at h
  · rename_i vv ev
    split at h
    · rename_i ss hs
      cases h
      refine ⟨Nat.le_succ _, fun A φ H1 w E hO hH hr hf => does_eq ?_⟩
      have hx := toSegs_spec hs (hO x (by rw [ho]; simp [Op.operands]) _ ev)
      rw [ho]
      exact Does.box fun b w' hb hg hB => new_blk hH hf hb hg hB fun φ' A' ha => hx.up ha
    · exact h.elim
  · exact h.elim

/-! ### stores -/
def storeBlk (P : Program) (T : TypeId) (T0 : TypeId) (l : List Seg) (j fo i sz nx : Nat) (ss : List Seg) : PT SR :=
  match sz with
  | 0 => bif decide ((P.info? T).map (·.size) = some (segsN ss)) then (match segPut l fo ss with | some l' => .ret ⟨VV.und, [(j, .blk T0 l')], [j], nx⟩ | none => .fail) else .fail
  | _ =>
    (match arrIn l fo, ss with
     | some (k, ⟨n, a⟩), [.one (.b (.int k' x))] =>
       bif Nat.beq sz 1 && decide (k' = k) && decide ((P.info? T).map (·.size) = some 1) then
         .chk (decide (i < n)) (match segPut l fo [.arr k n (a.set i x)] with | some l' => .ret ⟨VV.und, [(j, .blk T0 l')], [j], nx⟩ | none => .fail) else .fail
     | _, _ => .fail)
/-- own rows that become part of others' contents are not turned any more -/
def freeze (H : Hp) : List Nat → Hp
  | [] => []
  | j :: js => (match H.get j with | some (.own t _ l _) => (j, .ro t l) :: freeze H js | some (.blk T l) => (j, .fblk T l) :: freeze H js | _ => freeze H js)
/-- an object, frozen -/
def frz : Obj → Option Obj
  | .own t _ l _ => some (.ro t l)
  | .blk T l => some (.fblk T l)
  | _ => none
theorem frz_mut {o o' : Obj} (h : frz o = some o') : o.mut = true ∧ o'.mut = false := by
  cases o <;> cases h <;> exact ⟨rfl, rfl⟩
theorem frz_rep {φ φ' : Ph} {A A' N N' : Nat → Prop} {w w' : World} {b : Bs} {o o' : Obj} (hf : frz o = some o') (h : RepO φ A N w b o) (hA : Agree φ φ' A A') (hk : Kept N N' w w') (hs : ∀ ad, b.addr = some ad → w'.heap[ad.block]? = w.heap[ad.block]?) (hn : ∀ ad, b.addr = some ad → ¬ N' ad.block) : RepO φ' A' N' w' b o' := by
  have hlow := fun ad (ha : b.addr = some ad) => h.low (frz_mut hf).1 ha
  cases o with
  | own t e l f =>
    cases hf
    obtain ⟨css, g1, g2, g3, g4, g5, g6⟩ := h
    have g2' := own_same g2 hs
    obtain ⟨a, c, e1, q1, _⟩ := own_slice g2
    cases e1
    exact ⟨css, g1.mono fun _ _ => RepD.kept hk, own_row g2', g3, q1, g5, fun ad ha _ => ⟨Nat.lt_of_lt_of_le (hlow ad ha) hk.1, hn ad ha⟩⟩
  | blk T l =>
    cases hf
    obtain ⟨g, cs, h1, h2, h3⟩ := h
    exact ⟨g, cs, h1, h2.same (hs _ h1), h3.up hA, hn _ h1⟩
  | _ => cases hf
def noBlk (H : Hp) (js : List Nat) : Bool := js.all fun j => match H.get j with | some (.hid _) => false | some (.rcd _ _) => false | some (.rdn _) => false | _ => true
def storeRow (P : Program) (T : TypeId) (H : Hp) (t : Ty) (e : TypeId) (l : List t.den) (f : Bool) (j fo i sz nx : Nat) (ss : List Seg) : PT SR :=
  bif Nat.beq sz t.size && decide ((P.info? T).map (·.size) = some (segsN ss)) && noBlk H (segIds ss) && !(segIds ss).contains j then
    .bind (l[i]?) fun x =>
      match openT t x nx with
      | (os, u, nx') => (match segPut os fo ss with
        | some os' => (match closeT (u ++ H) t os' with
          | some (y, []) => bif (segIds os').all (fun q => (u.get q).isSome || (segIds ss).contains q) then .ret ⟨VV.und, (j, .own t e (l.set i y) f) :: freeze H (segIds ss), j :: segIds ss, nx'⟩ else .fail
          | _ => .fail)
        | none => .fail)
  else .fail
def storeV (P : Program) (T : TypeId) (H : Hp) (nx : Nat) (x y : Option VV) : PT SR :=
  match x, y with
  | some (.a (.one (.b (.ptr j fo i sz)))), some vv =>
    (match toSegs vv, H.get j with
     | some ss, some (.blk T0 l) => storeBlk P T T0 l j fo i sz nx ss
     | some ss, some (.own t e l f) => storeRow P T H t e l f j fo i sz nx ss
     | _, _ => .fail)
  | _, _ => .fail
theorem store_run {T T0 : TypeId} {x y : Operand} {E : Env} {g off : Nat} {cs vs : List Value} {w : World} (ho : o.op = .store T x y) (hx : E.ev x = .pointer (some ⟨g, off, none⟩)) (hB : Blk w g cs T0) (hv : (E.ev y).cells.toList = vs)
    (hs : (P.info? T).map (·.size) = some vs.length) (hlen : off + vs.length ≤ cs.length) (hone : vs.all one' = true) {K : Value → World → Prop} (hk : ∀ w', Ext1 g w w' → w'.heap.size = w.heap.size → Blk w' g (splice cs off vs) T0 → K undef w') : Does P o E w K := by
  refine does_eq ?_
  rw [ho]
  exact Does.store hx hB vs hv hs hlen hone hk
theorem MB.of {φ : Ph} {H1 : Hp} {j : Nat} {ob : Obj} {ad : Addr} (hg : H1.get j = some ob) (hm : ob.mut = true) (ha : (φ j).addr = some ad) : MB φ H1 ad.block := ⟨j, ob, ad, hg, hm, ha, rfl⟩
theorem storeBlk_spec {T T0 : TypeId} {x y : Operand} {r : SR} {j fo i sz : Nat} {l ss : List Seg} {vv : VV} (ho : o.op = .store T x y) (ex : evV Ev x = some (.a (.one (.b (.ptr j fo i sz))))) (ey : evV Ev y = some vv) (hss : toSegs vv = some ss) (hg : H.get j = some (.blk T0 l))
    (h : PT.Ends (storeBlk P T T0 l j fo i sz lo ss) r) : OpS P Ev H lo o r := by
  have hxm : x ∈ o.op.operands := by rw [ho]; simp [Op.operands]
  have hym : y ∈ o.op.operands := by rw [ho]; simp [Op.operands]
  unfold storeBlk at h
  split at h
  · cases hc : decide ((P.info? T).map (·.size) = some (segsN ss)) with
    | false => rw [hc] at h; exact h.elim
    | true =>
      rw [hc] at h
      have hc : (P.info? T).map (·.size) = some (segsN ss) := of_decide_eq_true hc
      simp only [cond_true] at h
      split at h
      · rename_i l' hl'
        cases h
        refine ⟨Nat.le_refl _, fun A φ H1 w E hO hH hr hf => ?_⟩
        obtain ⟨hA, ad, ha, ev⟩ := hO x hxm _ ex
        have hvs := toSegs_spec hss (hO y hym _ ey)
        have hg1 : H1.get j = some (.blk T0 l) := by rw [hr j (by simp)]; exact hg
        obtain ⟨g, cs, e1, hB, hG⟩ := hH.obj j _ hg1
        rw [e1] at ha; cases ha
        obtain ⟨hG', hle⟩ := hG.put hvs hl'
        refine store_run (P := P) (vs := (E.ev y).cells.toList) ho (by rw [ev, add_mk]) hB rfl (by rw [hvs.len]; exact hc) (by omega) hvs.one fun w' hE hz hB' => ?_
        have hx : Ext (MB φ H1) w w' := hE.mono fun k hk => by rw [show k = g from hk]; exact MB.of hg1 rfl e1
        refine ⟨A, φ, trivial, Stp.turn hH hg1 rfl (fun k hk hne => hE.same k hk (hne _ e1)) hx (fun N' hk => ⟨g, _, e1, hB', ?_⟩), fun _ h => .inl h⟩
        simpa using hG'
      · exact h.elim
  · split at h
    · rename_i k n a k' x' harr
      cases hc : Nat.beq sz 1 && decide (k' = k) && decide ((P.info? T).map (·.size) = some 1) with
      | false => rw [hc] at h; exact h.elim
      | true =>
        rw [hc] at h
        simp only [Bool.and_eq_true, decide_eq_true_eq] at hc
        obtain ⟨⟨hs, rfl⟩, hsz⟩ := hc
        have hs := Nat.eq_of_beq_eq_true hs
        subst hs
        obtain ⟨hi, h⟩ := PT.ends_chk.1 h
        have hi : i < n := by simpa using hi
        split at h
        · rename_i l' hl'
          cases h
          refine ⟨Nat.le_refl _, fun A φ H1 w E hO hH hr hf => ?_⟩
          obtain ⟨hA, ad, ha, ev⟩ := hO x hxm _ ex
          have hvs := toSegs_spec hss (hO y hym _ ey)
          have hg1 : H1.get j = some (.blk T0 l) := by rw [hr j (by simp)]; exact hg
          obtain ⟨g, cs, e1, hB, hG⟩ := hH.obj j _ hg1
          rw [e1] at ha; cases ha
          obtain ⟨c, cs', e2, e3, _, e4⟩ := hvs
          have e4' : cs' = [] := e4
          have e3' : c = .int k' x' := e3
          subst e4'; subst e3'
          unfold arrIn at harr
          split at harr
          · rename_i hd
            cases harr
            obtain ⟨⟨cs', e5, _⟩, hle⟩ := hG.drop hd
            have hlen : fo + n ≤ cs.length := by
              have := congrArg List.length e5
              rw [List.length_drop, List.length_append, length_ints, a.h] at this; omega
            obtain ⟨hG', _⟩ := hG.put (new := [.arr k' n (a.set i x')]) (ns := ints k' (a.set i x').l) ⟨[], by simp, rfl⟩ hl'
            refine store_run (P := P) (vs := [.int k' x']) ho (by rw [ev, add_mk]) hB e2 (by simpa using hsz) (by simp; omega) rfl fun w' hE hz hB' => ?_
            have hx : Ext (MB φ H1) w w' := hE.mono fun k hk => by rw [show k = g from hk]; exact MB.of hg1 rfl e1
            have hsp : splice cs (0 + (fo + i * 1)) [.int k' x'] = splice cs fo (ints k' (a.set i x').l) := by
              rw [splice_one _ _ _ (by omega)]
              have e6 : cs = cs.take fo ++ (ints k' a.l ++ cs') := by rw [← e5, List.take_append_drop]
              have htl : (cs.take fo).length = fo := by rw [List.length_take]; omega
              have hal : (ints k' a.l).length = n := by rw [length_ints, a.h]
              unfold splice
              have e7 : cs.drop (fo + (ints k' (a.set i x').l).length) = cs' := by
                rw [length_ints, (a.set i x').h, ← List.drop_drop, e5, List.drop_left' hal]
              rw [e7]
              conv => lhs; rw [e6]
              rw [List.set_append_right _ _ (by rw [htl]; omega), htl, show 0 + (fo + i * 1) - fo = i by omega, List.set_append_left _ _ (by omega), ints_set, List.append_assoc]
              rfl
            rw [hsp] at hB'
            exact ⟨A, φ, trivial, Stp.turn hH hg1 rfl (fun k hk hne => hE.same k hk (hne _ e1)) hx (fun N' hk => ⟨g, _, e1, hB', hG'⟩), fun _ h => .inl h⟩
          · cases harr
        · exact h.elim
    · exact h.elim
end
end Go.Sat
end
section
namespace Go.Sat
open Go

section
variable {P : Program} {Ev : VEnv} {H : Hp} {lo : Nat} {o : Oper}

theorem freeze_get {H : Hp} {ids : List Nat} {i : Nat} {ob : Obj} (h : (freeze H ids).get i = some ob) : ∃ o, i ∈ ids ∧ H.get i = some o ∧ frz o = some ob := by
  induction ids with
  | nil => cases h
  | cons j js ih =>
    unfold freeze at h
    split at h
    · rename_i t e l f hg
      by_cases hij : j = i
      · subst hij
        rw [get_self] at h; cases h
        exact ⟨_, List.mem_cons_self .., hg, rfl⟩
      · rw [get_ne _ _ hij] at h
        obtain ⟨o, h1, h2⟩ := ih h
        exact ⟨o, List.mem_cons_of_mem _ h1, h2⟩
    · rename_i T l hg
      by_cases hij : j = i
      · subst hij
        rw [get_self] at h; cases h
        exact ⟨_, List.mem_cons_self .., hg, rfl⟩
      · rw [get_ne _ _ hij] at h
        obtain ⟨o, h1, h2⟩ := ih h
        exact ⟨o, List.mem_cons_of_mem _ h1, h2⟩
    · obtain ⟨o, h1, h2⟩ := ih h
      exact ⟨o, List.mem_cons_of_mem _ h1, h2⟩
theorem freeze_some {H : Hp} {ids : List Nat} {i : Nat} {o o' : Obj} (hi : i ∈ ids) (hg : H.get i = some o) (hf : frz o = some o') : (freeze H ids).get i = some o' := by
  induction ids with
  | nil => cases hi
  | cons j js ih =>
    unfold freeze
    by_cases hij : j = i
    · subst hij
      rw [hg]
      cases o <;> cases hf <;> simp [get_self]
    · have hi' : i ∈ js := (List.mem_cons.1 hi).resolve_left (Ne.symm hij)
      split
      · rw [get_ne _ _ hij]; exact ih hi'
      · rw [get_ne _ _ hij]; exact ih hi'
      · exact ih hi'
theorem freeze_agree {H1 : Hp} {ids : List Nat} (hg : ∀ j ∈ ids, H1.get j = H.get j) : freeze H1 ids = freeze H ids := by
  induction ids with
  | nil => rfl
  | cons j js ih =>
    unfold freeze
    rw [hg j (List.mem_cons_self ..), ih fun i hi => hg i (List.mem_cons_of_mem _ hi)]
/-- an object is laid, others are frozen: j is new, or is turned in place -/
theorem Stp.layF {A A' : Nat → Prop} {φ φ' : Ph} {H1 : Hp} {w w' : World} {j : Nat} {ob : Obj} {ids : List Nat} (h : RepH A φ H1 w) (hA : Agree φ φ' A A') (hj : A' j) (hx : Ext (MB φ H1) w w') (hni : j ∉ ids) (hnb : noBlk H1 ids = true)
    (hjn : ob.mut = true → ∀ ad, (φ' j).addr = some ad → w.heap.size ≤ ad.block ∨ ∃ oi, H1.get j = some oi ∧ oi.mut = true ∧ φ' j = φ j)
    (he : ∀ i oi ad, i ≠ j → H1.get i = some oi → oi.mut = true → (φ i).addr = some ad → w'.heap[ad.block]? = w.heap[ad.block]?)
    (ho : ∀ N' : Nat → Prop, Kept (MB φ H1) N' w w' → (∀ k, N' k → MB φ H1 k ∨ w.heap.size ≤ k) → (ob.mut = true → ∀ ad, (φ' j).addr = some ad → N' ad.block) → (∀ i ∈ ids, ∀ oi, H1.get i = some oi → oi.mut = true → ∀ ad, (φ i).addr = some ad → ¬ N' ad.block) → RepO φ' A' N' w' (φ' j) ob) :
    Stp A φ H1 w A' φ' (((j, ob) :: freeze H1 ids) ++ H1) w' := by
  have out : ∀ i ∈ ids, ∀ oi, H1.get i = some oi → oi.mut = true → ∀ ad, (φ i).addr = some ad → ∀ N' : Nat → Prop,
      (∀ k, N' k → (∃ i' o' ad', Hp.get ((j, ob) :: freeze H1 ids) i' = some o' ∧ o'.mut = true ∧ (φ' i').addr = some ad' ∧ ad'.block = k) ∨ (∃ i' o' ad', Hp.get ((j, ob) :: freeze H1 ids) i' = none ∧ H1.get i' = some o' ∧ o'.mut = true ∧ (φ i').addr = some ad' ∧ ad'.block = k)) → ¬ N' ad.block := by
    intro i hi oi hgi hmi ad had N' hN hn
    have hij : i ≠ j := fun e => hni (e ▸ hi)
    obtain ⟨oi', hfz⟩ : ∃ o', frz oi = some o' := by
      have := List.all_eq_true.1 hnb i hi
      rw [hgi] at this
      cases oi with
      | hid _ => simp at this
      | rcd _ _ => simp at this
      | rdn _ => simp at this
      | own t e l f => exact ⟨_, rfl⟩
      | blk T l => exact ⟨_, rfl⟩
      | _ => cases hmi
    rcases hN _ hn with ⟨i', o', ad', h1, h2, h3, h4⟩ | ⟨i', o', ad', h1, h2, h3, h4, h5⟩
    · by_cases hj' : j = i'
      · subst hj'
        rw [get_self] at h1; cases h1
        rcases hjn h2 ad' h3 with hle | ⟨oj, hoj, hmj, hph⟩
        · have := (h.obj i _ hgi).low hmi had
          omega
        · rw [hph] at h3
          exact h.sep j i oj _ ad' ad (Ne.symm hij) hoj hgi hmj hmi h3 had h4
      · rw [get_ne _ _ hj'] at h1
        obtain ⟨o0, _, _, k3⟩ := freeze_get h1
        rw [(frz_mut k3).2] at h2; cases h2
    · by_cases hii : i' = i
      · subst hii
        rw [get_ne _ _ (Ne.symm hij), freeze_some hi hgi hfz] at h1; cases h1
      · exact h.sep i' i o' _ ad' ad hii h2 hgi h3 hmi h4 had h5
  refine h.lay hA hx (fun i x hi => ?_) (fun i x ad hn hH hm ha => ?_) (fun i i' x x' ad ad' hne hi hi' hm hm' => ?_) (fun N' hk hle hmk hN i x hi => ?_)
  · by_cases hij : j = i
    · subst hij
      rw [get_self] at hi; cases hi
      refine ⟨hj, fun hm ad ha => ?_⟩
      rcases hjn hm ad ha with hle | ⟨oi, h1, h2, h3⟩
      · exact .inl hle
      · exact .inr ⟨j, oi, by rw [get_self]; rfl, h1, h2, by rw [← h3, ha]; rfl⟩
    · rw [get_ne _ _ hij] at hi
      obtain ⟨o0, h1, h2, h3⟩ := freeze_get hi
      exact ⟨(hA i (h.dom i _ h2)).2, fun hm => by rw [(frz_mut h3).2] at hm; cases hm⟩
  · have hij : i ≠ j := fun e => by subst e; rw [get_self] at hn; cases hn
    exact he i x ad hij hH hm ha
  · by_cases hij : j = i
    · by_cases hij' : j = i'
      · exact absurd (hij.symm.trans hij') hne
      · rw [get_ne _ _ hij'] at hi'
        obtain ⟨_, _, _, h3⟩ := freeze_get hi'
        rw [(frz_mut h3).2] at hm'; cases hm'
    · rw [get_ne _ _ hij] at hi
      obtain ⟨_, _, _, h3⟩ := freeze_get hi
      rw [(frz_mut h3).2] at hm; cases hm
  · by_cases hij : j = i
    · subst hij
      rw [get_self] at hi; cases hi
      exact ho N' hk hle (fun hm ad ha => hmk j _ ad (get_self _ _ _) hm ha) fun i hi oi hgi hmi ad had => out i hi oi hgi hmi ad had N' hN
    · rw [get_ne _ _ hij] at hi
      obtain ⟨o0, h1, h2, h3⟩ := freeze_get hi
      have hm0 := (frz_mut h3).1
      rw [(hA i (h.dom i _ h2)).1]
      exact frz_rep h3 (h.obj i _ h2) hA hk (fun ad ha => he i _ ad (Ne.symm hij) h2 hm0 ha) fun ad ha => out i h1 _ h2 hm0 ad ha N' hN

/-! ### what a slice holds, once more: contents and cells -/
theorem sl_cont {A : Nat → Prop} {φ : Ph} {H1 : Hp} {w : World} (h : RepH A φ H1 w) {t : Ty} {b : BV} {v : Value} {l : List t.den} (hv : RelB φ A b v) (hc : slCont H1 t b = some l) :
    ∃ a c css, v = .slice a (List.length l) c ∧ List.length l ≤ c ∧ (a = none → c = 0) ∧ All2 (fun cs x => RepD (MB φ H1) w t cs x) css l ∧ Row w a css.flatten := by
  cases b with
  | nilsl => cases hc; cases hv; exact ⟨none, 0, [], rfl, Nat.le_refl _, fun _ => rfl, trivial, Row.nil _ _⟩
  | row j =>
    obtain ⟨h1, h2, h3, h4, h5, css, h6, h7⟩ := rowAll_spec h hc
    obtain ⟨_, hv, _, _⟩ := hv
    rw [h1] at hv
    exact ⟨_, _, css, hv, h2, h3, h6, h7⟩
  | sl j fo i sz len top =>
    have hv0 := hv
    obtain ⟨hA, a, c, rfl, hlc, hn, hb, ha, hcap, hlen, h00⟩ := hv
    unfold slCont rowPart at hc
    cases top with
    | none =>
      simp only at hc
      cases hf : Nat.beq fo 0 && Nat.beq sz t.size with
      | false => rw [hf] at hc; cases hc
      | true =>
        rw [hf] at hc
        simp only [cond_true] at hc
        simp only [Bool.and_eq_true] at hf
        have e1 := Nat.eq_of_beq_eq_true hf.1
        have e2 := Nat.eq_of_beq_eq_true hf.2
        subst e1; subst e2
        split at hc
        · rename_i l0 hr
          simp only [Option.some.injEq] at hc
          subst hc
          obtain ⟨h1, h2, h3, h4, h5, css, h6, h7⟩ := rowAll_spec h hr
          simp only [Option.getD_none] at hcap hlen
          have hl : List.length (List.take len (List.drop i l0)) = len := by rw [List.length_take, List.length_drop]; omega
          refine ⟨a, c, (css.drop i).take len, by rw [hl], by omega, hn, h6.drop i |>.take len, ?_⟩
          rw [flat_cut (fun _ _ h => RepD.len h) h6 i len]
          refine h7.drop_take _ _ fun hp => ?_
          have : 0 < len := Nat.pos_of_ne_zero fun e => by subst e; simp at hp
          have := ha (by omega)
          simpa using this
        · cases hc
    | some n =>
      -- an array of whole numbers: of its elements nothing lies elsewhere
      cases t with
      | int k =>
        have hd := slCont_spec (N' := fun _ => False) h hv0 (show slCont H1 (.int k) (.sl j fo i sz len (some n)) = some l from hc) (fun _ h => h.elim) (fun _ _ _ _ _ _ _ h => h)
        obtain ⟨a', c', e, h1, h2, _, css, h3, h4⟩ := hd
        simp only [List.cons.injEq, and_true] at e
        cases e
        exact ⟨a, c, css, rfl, h1, h2, h3.mono fun _ _ h => h, h4⟩
      | _ => cases hc
  | _ => cases hc

/-! ### append -/
def tyOk (P : Program) (e : TypeId) (t : Ty) : Bool :=
  match rowT P e with
  | some (z, size, _) => Nat.beq size t.size && Nat.blt 0 size && (match z, t with | .int k _, .int k' => decide (k = k') | .int _ _, _ => false | _, .int _ => false | _, _ => true)
  | none => false
def bytesOfT (P : Program) (e : TypeId) : Nat := match rowT P e with | some (_, _, b) => b | none => 0
theorem tyOk_spec {e : TypeId} {t : Ty} (h : tyOk P e t = true) : ∃ z, rowT P e = some (z, t.size, bytesOfT P e) ∧ 0 < t.size ∧ z.cells.size = t.size ∧ (∀ k, t = .int k → ∃ x, z = .int k x) ∧ (∀ k x, z = .int k x → t = .int k) := by
  unfold tyOk at h
  unfold bytesOfT
  split at h
  · rename_i z size b hr
    rw [hr]
    simp only [Bool.and_eq_true] at h
    obtain ⟨⟨h1, h2⟩, h3⟩ := h
    have h1 := Nat.eq_of_beq_eq_true h1
    subst h1
    obtain ⟨i, _, _, _, _, hz⟩ := rowT_spec hr
    have h2 : 0 < t.size := by simpa [Nat.blt_eq] using h2
    refine ⟨z, rfl, h2, hz, fun k hk => ?_, fun k x hz => ?_⟩
    · subst hk
      cases z with
      | int k' x => simp at h3; subst h3; exact ⟨x, rfl⟩
      | _ => cases h3
    · subst hz
      cases t with
      | int k' => simp at h3; subst h3; rfl
      | _ => cases h3
  · cases h
/-- room for so many elements of so many bytes -/
def roomFor (n b : Nat) : Bool := decide (n * b ≤ 140737488355328) && decide (n ≤ 4611686018427387904)
theorem own_of {A N : Nat → Prop} {φ : Ph} {w : World} {b : Bs} {t : Ty} {e : TypeId} {l : List t.den} {f : Bool} {z : Value} (h : RepO φ A N w b (.own t e l f)) (hz : z.cells.size = t.size) (hk : ∀ k x, z = .int k x → t = .int k) :
    ∃ css, All2 (fun cs x => RepD N w t cs x) css l ∧ Own w 0 e z (.slice b.addr (List.length l) b.cap) (List.length l) css.flatten := by
  obtain ⟨css, h1, h2, h3, h4, h5, h6⟩ := h
  refine ⟨css, h1, by rw [hz]; exact h2, Nat.zero_le _, fun g cs T fz hg hc u hu => ?_⟩
  cases hzz : z with
  | int k x =>
    have hti := hk k x hzz
    cases ha : b.addr with
    | none => rw [ha] at hg; cases hg
    | some ad =>
      rw [ha] at hg h2
      obtain ⟨e1, sp, hB, _⟩ := own_addr h2 rfl
      have hgb : ad.block = g := by
        rw [e1] at hg
        simpa [Value.ownBlock] using hg
      subst hgb
      have hB' : w.heap[ad.block]? = some (.cells _ e (0, 0)) := hB
      rw [hB'] at hc
      cases hc
      obtain ⟨y, hy⟩ := h6 k hti ad _ e ha hB u (by simpa using hu)
      exact ⟨y, hy⟩
  | _ => exact trivial
/-- the first n of an own row, the rest given up -/
theorem own_cut {w : World} {e : TypeId} {z : Value} {a : Option Addr} {c k n : Nat} {xs : List Value} (h : Own w 0 e z (.slice a k c) k xs) (hn : n ≤ k) : Own w 0 e z (.slice a n c) n (xs.take (n * z.cells.size)) := by
  rcases own_open h.own with ⟨h1, rfl, rfl⟩ | ⟨g, c', sp, h1, _, hB, hl, hcl, hkc, hcm⟩
  · obtain rfl : n = 0 := by omega
    cases h1
    simpa using h
  · cases h1
    refine ⟨?_, Nat.zero_le _, fun g' cs T f hg hc => h.tame g' cs T f (by simpa [Value.ownBlock] using hg) hc⟩
    have hle : n * z.cells.size ≤ xs.length := by rw [hl]; exact Nat.mul_le_mul_right _ hn
    have e1 : xs.take (n * z.cells.size) ++ (xs.drop (n * z.cells.size) ++ sp) = xs ++ sp := by rw [← List.append_assoc, List.take_append_drop]
    exact own_mk (Nat.zero_le _) (sp := xs.drop (n * z.cells.size) ++ sp) (by rw [e1]; exact hB) (by rw [List.length_take]; omega) (by rw [e1]; exact hcl) (by omega) hcm
/-- where an append starts -/
def appBase (H : Hp) (b : BV) : Option (Option Nat × Σ t : Ty, TypeId × List t.den) :=
  match b with
  | .row j => (match H.get j with | some (.own t e l _) => some (some j, ⟨t, e, l⟩) | _ => none)
  | .sl j 0 0 sz len none => (match H.get j with | some (.own t e l _) => bif Nat.beq sz t.size then some (some j, ⟨t, e, l.take len⟩) else none | _ => none)
  | _ => none
def dropOld : Option Nat → Hp
  | some j => [(j, .dead)]
  | none => []
def appV (P : Program) (t0 : TypeId) (H : Hp) (nx : Nat) (tn : Ty) (x y : Option VV) : PT SR :=
  match P.underlying t0, x, y with
  | some (.slice e), some (.a (.one (.b .nilsl))), some (.a (.one (.b b))) =>
    (match slCont H tn b with
     | some ys => bif tyOk P e tn then .chk (roomFor (List.length ys) (bytesOfT P e)) (.ret ⟨.b (.row nx), [(nx, .own tn e ys false)], bvIds b, nx + 1⟩) else .fail
     | none => .fail)
  | some (.slice e), some (.a (.one (.b xb))), some (.a (.one (.b b))) =>
    (match appBase H xb with
     | some (some j, ⟨t, e', l⟩) =>
       (match slCont H t b with
        | some ys => bif tyOk P e t && Nat.beq e e' && !(bvIds b).contains j then .chk (roomFor (List.length l + List.length ys) (bytesOfT P e)) (.ret ⟨.b (.row nx), [(nx, .own t e (l ++ ys) false), (j, .dead)], j :: bvIds b, nx + 1⟩) else .fail
        | none => .fail)
     | _ => .fail)
  | _, _, _ => .fail
theorem own_rep {A N : Nat → Prop} {φ : Ph} {w : World} {a : Option Addr} {c n : Nat} {t : Ty} {e : TypeId} {l : List t.den} {z : Value} {css : List (List Value)} (h : Own w 0 e z (.slice a n c) n css.flatten) (hz : z.cells.size = t.size) (hk : ∀ k, t = .int k → ∃ x, z = .int k x)
    (hc : All2 (fun cs x => RepD N w t cs x) css l) (hn : n = List.length l) : RepO φ A N w ⟨a, c, List.length l⟩ (.own t e l false) := by
  subst hn
  obtain ⟨a', c', e1, h1, h2⟩ := own_open2 h
  cases e1
  refine ⟨css, hc, by rw [← hz]; exact h.own, rfl, fun e => (by cases e), h2, fun k hk' ad cs T ha hB u hu => ?_⟩
  obtain ⟨x, hx⟩ := hk k hk'
  subst ha
  obtain ⟨e2, _⟩ := own_addr h.own rfl
  have := h.tame ad.block _ T (0, 0) (by rw [e2]; rfl) hB u (by simpa using hu)
  rw [hx] at this
  exact this
theorem own_ob {w : World} {base : Nat} {e : TypeId} {z : Value} {a : Option Addr} {c k n : Nat} {xs : List Value} (h : Own w base e z (.slice a n c) k xs) {ad : Addr} (ha : a = some ad) : (Value.slice a n c).ownBlock = some ad.block := by
  subst ha
  obtain ⟨e2, _⟩ := own_addr h.own rfl
  rw [e2]; rfl
theorem own_ob' {a : Option Addr} {c n q : Nat} (h : some q = (Value.slice a n c).ownBlock) : ∃ ad, a = some ad ∧ ad.block = q := by
  cases a with
  | none => cases h
  | some ad =>
    refine ⟨ad, rfl, ?_⟩
    obtain ⟨b, o, s⟩ := ad
    unfold Value.ownBlock at h
    split at h
    · rename_i a' _ _ heq
      simp only [Value.slice.injEq, Option.some.injEq] at heq
      obtain ⟨rfl, _⟩ := heq
      exact (Option.some.inj h).symm
    · cases h; rfl
theorem flat_one {N : Nat → Prop} {w : World} {t : Ty} {ys : List t.den} : ∀ {css : List (List Value)}, All2 (fun cs x => RepD N w t cs x) css ys → css.flatten.all one' = true := by
  induction ys with
  | nil => intro css h; cases css with
    | nil => rfl
    | cons _ _ => cases h
  | cons y ys ih => intro css h; cases css with
    | nil => cases h
    | cons c css => rw [List.flatten_cons, List.all_append, RepD.one h.1, ih h.2]; rfl
theorem flat_like {N : Nat → Prop} {w : World} {t : Ty} {ys : List t.den} {css : List (List Value)} {z : Value} (hk2 : ∀ k x, z = .int k x → t = .int k) (hc : All2 (fun cs x => RepD N w t cs x) css ys) : ∀ u ∈ css.flatten, likeZ z u := by
  intro u hu'
  cases hzz : z with
  | int k x0 =>
    have hti := hk2 k x0 hzz
    subst hti
    obtain ⟨cs, hcs, hmem⟩ := List.mem_flatten.1 hu'
    obtain ⟨i, hi⟩ := List.getElem?_of_mem hcs
    obtain ⟨y', _, hd⟩ := hc.getl hi
    have hd' : cs = [.int k y'] := hd
    rw [hd'] at hmem
    exact ⟨y', List.mem_singleton.1 hmem⟩
  | _ => exact trivial
theorem roomFor_spec {n b : Nat} (h : roomFor n b = true) : n * b ≤ 140737488355328 ∧ n ≤ 4611686018427387904 := by simpa [roomFor] using h
theorem appV_spec {t0 : TypeId} {tn : Ty} {x y : Operand} {r : SR} (ho : o.op = .call { callee := .builtin .append, args := #[x, y], argTypes := #[t0, t0] }) (h : PT.Ends (appV P t0 H lo tn (evV Ev x) (evV Ev y)) r) : OpS P Ev H lo o r := by
  have hxm : x ∈ o.op.operands := by rw [ho]; simp [Op.operands, Call.operands]
  have hym : y ∈ o.op.operands := by rw [ho]; simp [Op.operands, Call.operands]
  unfold appV at h
  split at h
  · rename_i e b hu ex ey
    split at h
    · rename_i ys hys
      cases hok : tyOk P e tn with
      | false => rw [hok] at h; exact h.elim
      | true =>
        rw [hok] at h
        obtain ⟨hroom, h⟩ := PT.ends_chk.1 h
        cases h
        obtain ⟨hr1, hr2⟩ := roomFor_spec hroom
        obtain ⟨z, hrow, hsz, hzs, hk1, hk2⟩ := tyOk_spec hok
        refine ⟨Nat.le_succ _, fun A φ H1 w E hO hH hr hf => does_eq ?_⟩
        have hx : E.ev x = .slice none 0 0 := hO x hxm _ ex
        obtain ⟨a, c, css, e1, hl1, hl2, hc, hR⟩ := sl_cont (l := ys) hH (hO y hym _ ey) (by rw [slCont_agree hr]; exact hys)
        have hlen : css.flatten.length = List.length ys * tn.size := flat_len (fun _ _ h => RepD.len h) hc
        rw [ho]
        refine Does.app (base := 0) (k := 0) hu hrow hsz hx (Own.nil (Nat.zero_le _)) e1 hR hlen hl2 ?_ ?_ (by rw [Nat.zero_add]; exact hr1) (by rw [Nat.zero_add]; exact hr2) fun v' w' hE hO' hob => ?_
        · exact flat_one hc
        · exact flat_like hk2 hc
        · rw [Nat.zero_add, List.nil_append] at hO'
          obtain ⟨a', c', rfl, k1, k2⟩ := own_open2 hO'
          have hG : Grow w w' := hE.mono fun q hq => by cases hq
          have hl : ¬ A lo := hf lo (Nat.le_refl _) (Nat.lt_succ_self _)
          refine ⟨plus A lo, upd φ lo ⟨a', c', List.length ys⟩, ⟨.inr rfl, by rw [upd_same], by rw [upd_same]; exact k1, by rw [upd_same]; exact k2⟩, Stp.new hH hl hG (fun ad ha => ?_) (fun N' hk => own_rep hO' hzs hk1 (hc.mono fun _ _ => RepD.kept hk) rfl), fun j hj => hj.imp id fun e => by subst e; exact ⟨Nat.le_refl _, Nat.lt_succ_self _⟩⟩
          have := own_ob hO' ha
          rcases hob with h1 | h1
          · rw [this] at h1; cases h1
          · rw [this] at h1; exact Nat.le_of_eq (Option.some.inj h1).symm
    · exact h.elim
  · rename_i e xb b hne hu ex ey
    split at h
    · rename_i j t e' l hbase
      split at h
      · rename_i ys hys
        cases hcc : tyOk P e t && Nat.beq e e' && !(bvIds b).contains j with
        | false => rw [hcc] at h; exact h.elim
        | true =>
          rw [hcc] at h
          simp only [Bool.and_eq_true, Bool.not_eq_true'] at hcc
          obtain ⟨⟨hok, hee⟩, hjb⟩ := hcc
          have hee := Nat.eq_of_beq_eq_true hee
          subst hee
          obtain ⟨hroom, h⟩ := PT.ends_chk.1 h
          cases h
          obtain ⟨hr1, hr2⟩ := roomFor_spec hroom
          obtain ⟨z, hrow, hsz, hzs, hk1, hk2⟩ := tyOk_spec hok
          refine ⟨Nat.le_succ _, fun A φ H1 w E hO hH hr hf => does_eq ?_⟩
          obtain ⟨a, c, css, e1, hl1, hl2, hc, hR⟩ := sl_cont (l := ys) hH (hO y hym _ ey) (by rw [slCont_agree fun i hi => hr i (List.mem_cons_of_mem _ hi)]; exact hys)
          have hlen : css.flatten.length = List.length ys * t.size := flat_len (fun _ _ h => RepD.len h) hc
          -- the base
          have hbs : ∃ (ob : Obj) (cs0 : List (List Value)) (c0 : Nat), H1.get j = some ob ∧ ob.mut = true ∧ A j ∧ E.ev x = .slice (φ j).addr (List.length l) c0 ∧ All2 (fun cs x => RepD (MB φ H1) w t cs x) cs0 l ∧ Own w 0 e z (.slice (φ j).addr (List.length l) c0) (List.length l) cs0.flatten := by
            have hxr := hO x hxm _ ex
            unfold appBase at hbase
            split at hbase
            · rename_i j'
              split at hbase
              · rename_i t' e'' l' f hg
                cases hbase
                have hg1 : H1.get j = some (.own t e l f) := by rw [hr j (by simp)]; exact hg
                obtain ⟨css0, c1, c2⟩ := own_of (hH.obj j _ hg1) hzs hk2
                obtain ⟨hA, ev, _⟩ := hxr
                have hcl : (φ j).clen = List.length l := by obtain ⟨_, _, _, h3, _⟩ := hH.obj j _ hg1; exact h3
                rw [hcl] at ev
                exact ⟨_, css0, _, hg1, rfl, hA, ev, c1, c2⟩
              · cases hbase
            · rename_i j' sz len
              split at hbase
              · rename_i t' e'' l' f hg
                cases hsz' : Nat.beq sz t'.size with
                | false => rw [hsz'] at hbase; cases hbase
                | true =>
                  rw [hsz'] at hbase
                  simp only [cond_true, Option.some.injEq, Prod.mk.injEq] at hbase
                  obtain ⟨rfl, hb2⟩ := hbase
                  cases hb2
                  have hg1 : H1.get j' = some (.own t e l' f) := by rw [hr j' (by simp)]; exact hg
                  obtain ⟨css0, c1, c2⟩ := own_of (hH.obj j' _ hg1) hzs hk2
                  obtain ⟨hA, a0, cp, ev, q1, q2, q3, q4, q5, q6, q7⟩ := hxr
                  have hcl : (φ j').clen = List.length l' := by obtain ⟨_, _, _, h3, _⟩ := hH.obj j' _ hg1; exact h3
                  simp only [Option.getD_none, hcl] at q5 q6
                  have hlen' : len ≤ List.length l' := by omega
                  have htl : List.length (List.take len l') = len := by rw [List.length_take]; omega
                  rw [q7 rfl rfl] at ev
                  rw [show cp = (φ j').cap by omega] at ev
                  have hfl : (css0.take len).flatten = css0.flatten.take (len * z.cells.size) := by
                    have := flat_cut (fun _ _ h => RepD.len h) c1 0 len
                    rw [List.drop_zero, Nat.zero_mul, List.drop_zero] at this
                    rw [hzs]; exact this
                  refine ⟨_, css0.take len, _, hg1, rfl, hA, by rw [htl]; exact ev, c1.take len, ?_⟩
                  rw [htl, hfl]
                  exact own_cut c2 hlen'
              · cases hbase
            · cases hbase
          obtain ⟨ob, cs0, c0, hgj, hmj, hAj, hev, hc0, hown⟩ := hbs
          rw [ho]
          refine Does.app (base := 0) hu hrow hsz hev hown e1 hR hlen hl2 ?_ ?_ hr1 hr2 fun v' w' hE hO' hob => ?_
          · exact flat_one hc
          · exact flat_like hk2 hc
          · rw [← List.flatten_append] at hO'
            obtain ⟨a', c', rfl, k1, k2⟩ := own_open2 hO'
            have hl : ¬ A lo := hf lo (Nat.le_refl _) (Nat.lt_succ_self _)
            have hlj : lo ≠ j := fun e => hl (e ▸ hAj)
            have hob1 : ∀ q, some q = (Value.slice (φ j).addr (List.length l) c0).ownBlock → ∃ ad, (φ j).addr = some ad ∧ ad.block = q := fun q hq => own_ob' hq
            have hx : Ext (MB φ H1) w w' := hE.mono fun q hq => by
              obtain ⟨ad, ha, hb⟩ := hob1 q hq
              exact ⟨j, ob, ad, hgj, hmj, ha, hb⟩
            have hln : List.length l + List.length ys = List.length (l ++ ys) := by rw [List.length_append]
            refine ⟨plus A lo, upd φ lo ⟨a', c', List.length (l ++ ys)⟩, ⟨.inr rfl, by rw [upd_same, hln], by rw [upd_same, ← hln]; exact k1, by rw [upd_same]; exact k2⟩, ?_, fun i hj => hj.imp id fun e => by subst e; exact ⟨Nat.le_refl _, Nat.lt_succ_self _⟩⟩
            refine hH.lay (u := [(lo, .own t e (l ++ ys) false), (j, .dead)]) (agree_upd hl) hx (fun i x0 hi => ?_) (fun i x0 ad hn hHi hm ha => ?_) (fun i i' x0 x' ad ad' hne' hi hi' hm hm' => ?_) (fun N' hk _ _ _ i x0 hi => ?_)
            · by_cases hil : lo = i
              · subst hil
                rw [get_self] at hi; cases hi
                refine ⟨.inr rfl, fun _ ad ha => ?_⟩
                rw [upd_same] at ha
                have h1 := own_ob hO' ha
                rcases hob with h2 | h2
                · rw [h1] at h2
                  obtain ⟨ad2, ha2, hb2⟩ := hob1 _ h2
                  exact .inr ⟨j, ob, by rw [get_ne _ _ hlj, get_self]; rfl, hgj, hmj, by rw [ha2]; simp [hb2]⟩
                · rw [h1] at h2; exact .inl (Nat.le_of_eq (Option.some.inj h2).symm)
              · rw [get_ne _ _ hil] at hi
                obtain ⟨rfl, rfl⟩ := get_one hi
                exact ⟨.inl hAj, fun hm => by cases hm⟩
            · have hil : lo ≠ i := fun e => by subst e; rw [get_self] at hn; cases hn
              have hij : i ≠ j := fun e => by subst e; rw [get_ne _ _ hil, get_self] at hn; cases hn
              refine hE.same _ ((hH.obj i x0 hHi).low hm ha) fun hq => ?_
              obtain ⟨ad2, ha2, hb2⟩ := hob1 _ hq
              exact hH.sep i j x0 ob ad ad2 hij hHi hgj hm hmj ha ha2 hb2.symm
            · by_cases hil : lo = i
              · by_cases hil' : lo = i'
                · exact absurd (hil.symm.trans hil') hne'
                · rw [get_ne _ _ hil'] at hi'
                  obtain ⟨_, rfl⟩ := get_one hi'
                  cases hm'
              · rw [get_ne _ _ hil] at hi
                obtain ⟨_, rfl⟩ := get_one hi
                cases hm
            · by_cases hil : lo = i
              · subst hil
                rw [get_self] at hi; cases hi
                rw [upd_same]
                exact own_rep hO' hzs hk1 ((hc0.app hc).mono fun _ _ => RepD.kept hk) hln
              · rw [get_ne _ _ hil] at hi
                obtain ⟨_, rfl⟩ := get_one hi
                trivial
      · exact h.elim
    · exact h.elim
  · exact h.elim
end
end Go.Sat
end
section
namespace Go.Sat
open Go

def fieldsTy (P : Program) (rec : TypeId → Option Ty) : List Field → Nat → Option Ty
  | [], _ => none
  | [f], off => bif Nat.beq f.offset off && (f.name != "_") then rec f.type else none
  | f :: g :: r, off =>
    bif Nat.beq f.offset off && (f.name != "_") then
      (match rec f.type with
       | some a => (match fieldsTy P rec (g :: r) (off + a.size) with | some b => some (.pr a b) | none => none)
       | none => none)
    else none
def tyOf (P : Program) : Nat → TypeId → Option Ty
  | 0, _ => none
  | d + 1, T =>
    match P.underlying T with
    | some (.int k) => some (.int k)
    | some .bool => some .bool
    | some .string => some .str
    | some (.float _) => some .raw
    | some (.array n e) => (match P.underlying e with | some (.int k) => bif decide ((P.info? e).map (·.size) = some 1) && (P.info? T).isSome && Nat.beq (P.cellsOf T) n then some (.arr k n) else none | _ => none)
    | some (.struct fs) => bif !P.stoodInHeld T && (P.info? T).isSome then (match fieldsTy P (tyOf P d) fs.toList 0 with | some t => bif Nat.beq (P.cellsOf T) t.size then some t else none | none => none) else none
    | some (.slice e) => (match tyOf P d e with | some t => some (.sl t) | none => none)
    | _ => none
def flatT : Ty → Bool
  | .sl _ => false
  | .raw => false
  | .pr a b => flatT a && flatT b
  | _ => true
def eqT : (t : Ty) → t.den → t.den → Bool
  | .int _, x, y => decide (x = y)
  | .bool, x, y => x == y
  | .str, x, y => x == y
  | .raw, _, _ => false
  | .arr _ _, x, y => decide (x = y)
  | .pr a b, x, y => eqT a x.1 y.1 && eqT b x.2 y.2
  | .sl _, _, _ => false
theorem eqT_iff {t : Ty} (h : flatT t = true) (x y : t.den) : eqT t x y = true ↔ x = y := by
  induction t with
  | int k => simp [eqT]
  | bool => simp [eqT]
  | str =>
    obtain ⟨x⟩ := x
    obtain ⟨y⟩ := y
    show ((ByteArray.mk x) == (ByteArray.mk y)) = true ↔ _
    have e : ((ByteArray.mk x) == (ByteArray.mk y)) = (x == y) := rfl
    rw [e]; simp
  | raw => cases h
  | arr k n => simp [eqT]
  | pr a b iha ihb =>
    simp only [flatT, Bool.and_eq_true] at h
    obtain ⟨x1, x2⟩ := x
    obtain ⟨y1, y2⟩ := y
    simp [eqT, iha h.1, ihb h.2]
  | sl t => cases h
def isAggT : Ty → Bool
  | .arr _ _ => true
  | .pr _ _ => true
  | _ => false
/-- cells as a value of a type of the table -/
def ValR (P : Program) (T : TypeId) (cs : List Value) (v : Value) : Prop := (aggT P T = true ∧ v = .agg cs.toArray) ∨ (oneT P T = true ∧ cs = [v])
section
variable {P : Program} {w : World}
theorem fieldsTy_ne {rec : TypeId → Option Ty} {off : Nat} : fieldsTy P rec [] off = none := rfl
theorem part_val {T : TypeId} {cs : List Value} {pre c1 post : List Value} {v : Value} (hv : ValR P T c1 v) (hs : P.cellsOf T = c1.length ∨ oneT P T = true) (e : cs = pre ++ (c1 ++ post)) : (part T cs.toArray pre.length).run P w = .ok v w := by
  subst e
  rcases hv with ⟨h1, rfl⟩ | ⟨h1, rfl⟩
  · rw [run_part_agg h1]
    have hs' : P.cellsOf T = c1.length := hs.resolve_right fun h => by
      unfold aggT at h1; unfold oneT at h; split at h1 <;> simp_all
    congr 2
    apply Array.ext'
    rw [Array.toList_extract, hs']
    simp [List.extract_eq_take_drop, List.take_left']
  · exact run_part_one h1 (by simp)
theorem tyOf_val {d : Nat} : ∀ {T : TypeId} {t : Ty}, tyOf P d T = some t → (isAggT t = true ∧ aggT P T = true ∧ P.cellsOf T = t.size) ∨ (oneT P T = true ∧ t.size = 1) ∨ ∃ fs, P.underlying T = some (.struct fs) ∧ aggT P T = true ∧ P.cellsOf T = t.size := by
  intro T t h
  cases d with
  | zero => cases h
  | succ d =>
    unfold tyOf at h
    split at h
    · rename_i hu; cases h; exact .inr (.inl ⟨by unfold oneT; rw [hu], rfl⟩)
    · rename_i hu; cases h; exact .inr (.inl ⟨by unfold oneT; rw [hu], rfl⟩)
    · rename_i hu; cases h; exact .inr (.inl ⟨by unfold oneT; rw [hu], rfl⟩)
    · rename_i hu; cases h; exact .inr (.inl ⟨by unfold oneT; rw [hu], rfl⟩)
    · rename_i n e hu
      split at h
      · rename_i k hk
        cases hc : decide ((P.info? e).map (·.size) = some 1) && (P.info? T).isSome && Nat.beq (P.cellsOf T) n with
        | false => rw [hc] at h; cases h
        | true =>
          rw [hc] at h; cases h
          simp only [Bool.and_eq_true] at hc
          exact .inl ⟨rfl, by unfold aggT; rw [hu]; exact hc.1.2, Nat.eq_of_beq_eq_true hc.2⟩
      · cases h
    · rename_i fs hu
      cases hc : !P.stoodInHeld T && (P.info? T).isSome with
      | false => rw [hc] at h; cases h
      | true =>
        rw [hc] at h
        simp only [cond_true] at h
        split at h
        · rename_i t' ht
          cases hc2 : Nat.beq (P.cellsOf T) t'.size with
          | false => rw [hc2] at h; cases h
          | true =>
            rw [hc2] at h; cases h
            simp only [Bool.and_eq_true] at hc
            exact .inr (.inr ⟨fs, hu, by unfold aggT; rw [hu]; exact hc.2, Nat.eq_of_beq_eq_true hc2⟩)
        · cases h
    · rename_i e hu
      split at h
      · cases h; exact .inr (.inl ⟨by unfold oneT; rw [hu], rfl⟩)
      · cases h
    · cases h
/-- a field's value, out of a struct's cells -/
theorem part_ty {d : Nat} {T : TypeId} {t : Ty} {N : Nat → Prop} {cs pre c1 post : List Value} {x : t.den} (ht : tyOf P d T = some t) (h : RepD N w t c1 x) (e : cs = pre ++ (c1 ++ post)) : ∃ v, (part T cs.toArray pre.length).run P w = .ok v w ∧ ValR P T c1 v := by
  rcases tyOf_val ht with ⟨_, h1, h2⟩ | ⟨h1, h2⟩ | ⟨_, _, h1, h2⟩
  · exact ⟨_, part_val (.inl ⟨h1, rfl⟩) (.inl (by rw [h2, h.len])) e, .inl ⟨h1, rfl⟩⟩
  · have hl := h.len
    rw [h2] at hl
    match c1, hl with
    | [v], _ => exact ⟨v, part_val (.inr ⟨h1, rfl⟩) (.inr h1) e, .inr ⟨h1, rfl⟩⟩
  · exact ⟨_, part_val (.inl ⟨h1, rfl⟩) (.inl (by rw [h2, h.len])) e, .inl ⟨h1, rfl⟩⟩
theorem one_not_agg {T : TypeId} (h : oneT P T = true) (h' : aggT P T = true) : False := by
  unfold oneT at h; unfold aggT at h'; split at h' <;> simp_all
theorem fields_eq {d D : Nat} {N : Nat → Prop} (ih : ∀ {T : TypeId} {t : Ty} {cs ds : List Value} {x y : t.den} {v u : Value}, tyOf P d T = some t → flatT t = true → RepD N w t cs x → RepD N w t ds y → ValR P T cs v → ValR P T ds u → (Op.equalIn D T v u).run P w = .ok (eqT t x y) w) :
    ∀ (fs : List Field) (off : Nat) (t : Ty) (cs ds pre pre' c1 c2 : List Value) (x y : t.den), fieldsTy P (tyOf P d) fs off = some t → flatT t = true → pre.length = off → pre'.length = off → cs = pre ++ c1 → ds = pre' ++ c2 → RepD N w t c1 x → RepD N w t c2 y →
      (Op.eqFields D cs.toArray ds.toArray fs).run P w = .ok (eqT t x y) w := by
  intro fs
  induction fs with
  | nil => intro off t cs ds pre pre' c1 c2 x y h; cases h
  | cons f r ihr =>
    intro off t cs ds pre pre' c1 c2 x y h hf hp hp' e1 e2 d1 d2
    cases r with
    | nil =>
      unfold fieldsTy at h
      cases hc : Nat.beq f.offset off && (f.name != "_") with
      | false => rw [hc] at h; cases h
      | true =>
        rw [hc] at h
        simp only [cond_true] at h
        simp only [Bool.and_eq_true, bne_iff_ne] at hc
        have hoff := Nat.eq_of_beq_eq_true hc.1
        obtain ⟨v, p1, q1⟩ := part_ty (post := []) h d1 (by simpa using e1)
        obtain ⟨u, p2, q2⟩ := part_ty (post := []) h d2 (by simpa using e2)
        rw [hp, ← hoff] at p1
        rw [hp', ← hoff] at p2
        have := ih h hf d1 d2 q1 q2
        unfold Op.eqFields
        rw [if_pos hc.2]
        rw [Sem.run_bind, p1, Result.andThen_ok, Sem.run_bind, p2, Result.andThen_ok, Sem.run_bind, this, Result.andThen_ok]
        cases eqT t x y <;> rfl
    | cons g r =>
      unfold fieldsTy at h
      cases hc : Nat.beq f.offset off && (f.name != "_") with
      | false => rw [hc] at h; cases h
      | true =>
        rw [hc] at h
        simp only [cond_true] at h
        simp only [Bool.and_eq_true, bne_iff_ne] at hc
        have hoff := Nat.eq_of_beq_eq_true hc.1
        split at h
        · rename_i a ha
          split at h
          · rename_i b hb
            cases h
            simp only [flatT, Bool.and_eq_true] at hf
            obtain ⟨a1, a2, rfl, k1, k2⟩ := d1
            obtain ⟨b1, b2, rfl, m1, m2⟩ := d2
            obtain ⟨v, p1, q1⟩ := part_ty ha k1 e1
            obtain ⟨u, p2, q2⟩ := part_ty ha m1 e2
            rw [hp, ← hoff] at p1
            rw [hp', ← hoff] at p2
            have h1 := ih ha hf.1 k1 m1 q1 q2
            have h2 := ihr (off + a.size) b cs ds (pre ++ a1) (pre' ++ b1) a2 b2 x.2 y.2 hb hf.2 (by rw [List.length_append, hp, k1.len]) (by rw [List.length_append, hp', m1.len]) (by rw [List.append_assoc]; exact e1) (by rw [List.append_assoc]; exact e2) k2 m2
            unfold Op.eqFields
            rw [if_pos hc.2]
            rw [Sem.run_bind, p1, Result.andThen_ok, Sem.run_bind, p2, Result.andThen_ok, Sem.run_bind, h1, Result.andThen_ok]
            show _ = Result.ok (eqT a x.1 y.1 && eqT b x.2 y.2) w
            cases eqT a x.1 y.1 with
            | false => rfl
            | true => exact h2
          · cases h
        · cases h
theorem equalIn_ty {N : Nat → Prop} : ∀ (d : Nat) {D : Nat} {T : TypeId} {t : Ty} {cs ds : List Value} {x y : t.den} {v u : Value}, d + 1 ≤ D → tyOf P d T = some t → flatT t = true → RepD N w t cs x → RepD N w t ds y → ValR P T cs v → ValR P T ds u →
    (Op.equalIn D T v u).run P w = .ok (eqT t x y) w := by
  intro d
  induction d with
  | zero => intro D T t cs ds x y v u _ h; cases h
  | succ d ih =>
    intro D T t cs ds x y v u hD h hf d1 d2 v1 v2
    obtain ⟨D, rfl⟩ : ∃ D', D = D' + 1 := ⟨D - 1, by omega⟩
    have one : ∀ {c : Value} {cs : List Value} {v : Value}, cs = [c] → oneT P T = true → ValR P T cs v → v = c := by
      intro c cs v e ho hv
      subst e
      rcases hv with ⟨h1, _⟩ | ⟨_, h2⟩
      · exact (one_not_agg ho h1).elim
      · exact (List.cons.inj h2).1.symm
    have agg : ∀ {cs : List Value} {v : Value}, aggT P T = true → ValR P T cs v → v = .agg cs.toArray := by
      intro cs v ho hv
      rcases hv with ⟨_, h1⟩ | ⟨h1, _⟩
      · exact h1
      · exact (one_not_agg h1 ho).elim
    have h0 := h
    unfold tyOf at h
    split at h
    · rename_i k hu; cases h
      have ho : oneT P T = true := by unfold oneT; rw [hu]
      obtain rfl := one d1 ho v1
      obtain rfl := one d2 ho v2
      rw [run_equalIn_int w D T k k x y hu]
      rfl
    · rename_i hu; cases h
      have ho : oneT P T = true := by unfold oneT; rw [hu]
      obtain rfl := one d1 ho v1
      obtain rfl := one d2 ho v2
      exact run_equalIn_bool' w D T x y hu
    · rename_i hu; cases h
      have ho : oneT P T = true := by unfold oneT; rw [hu]
      obtain rfl := one d1 ho v1
      obtain rfl := one d2 ho v2
      rw [run_equalIn_string w D T x y hu, toListB]; rfl
    · cases h; cases hf
    · rename_i n e hu
      split at h
      · rename_i k hk
        cases hc : decide ((P.info? e).map (·.size) = some 1) && (P.info? T).isSome && Nat.beq (P.cellsOf T) n with
        | false => rw [hc] at h; cases h
        | true =>
          rw [hc] at h; cases h
          simp only [Bool.and_eq_true, decide_eq_true_eq] at hc
          have ho : aggT P T = true := by unfold aggT; rw [hu]; exact hc.1.2
          obtain rfl := agg ho v1
          obtain rfl := agg ho v2
          rw [show cs = _ from d1, show ds = _ from d2]
          obtain ⟨D, rfl⟩ : ∃ D', D = D' + 1 := ⟨D - 1, by omega⟩
          rw [run_equalIn_ints hu hk hc.1.1 x.h y.h]
          congr 1
          by_cases hxy : x = y
          · subst hxy; simp [eqT]
          · have : ¬ x.l = y.l := fun e => hxy (Arr.ext' e)
            simp [eqT, hxy, this]
      · cases h
    · rename_i fs hu
      cases hc : !P.stoodInHeld T && (P.info? T).isSome with
      | false => rw [hc] at h; cases h
      | true =>
        rw [hc] at h
        simp only [cond_true] at h
        split at h
        · rename_i t' ht
          cases hc2 : Nat.beq (P.cellsOf T) t'.size with
          | false => rw [hc2] at h; cases h
          | true =>
            rw [hc2] at h; cases h
            simp only [Bool.and_eq_true, Bool.not_eq_true'] at hc
            have ho : aggT P T = true := by unfold aggT; rw [hu]; exact hc.2
            obtain rfl := agg ho v1
            obtain rfl := agg ho v2
            have hfs : P.fieldsOf T = fs := by unfold Program.fieldsOf; rw [hu]
            rw [run_equalIn_agg w D T _ _ (by rw [hfs]; exact hu) hc.1, hfs]
            exact fields_eq (N := N) (fun h1 h2 h3 h4 h5 h6 => ih (by omega) h1 h2 h3 h4 h5 h6) fs.toList 0 t cs ds [] [] cs ds x y ht hf rfl rfl rfl rfl d1 d2
        · cases h
    · split at h
      · cases h; cases hf
      · cases h
    · cases h

variable {Ev : VEnv} {H : Hp} {lo : Nat} {o : Oper}
def eqAggV (P : Program) (op : BinOp) (t : TypeId) (nx : Nat) (x y : Option VV) : PT SR :=
  match x, y with
  | some (.a (.agg l)), some (.a (.agg m)) =>
    (match tyOf P 10 t with
     | some ty => bif flatT ty && !P.eqGuardType P.depth t && aggT P t then
       (match closeT [] ty l, closeT [] ty m with
        | some (a, []), some (b, []) => (match op with | .eql => Q (.bool (eqT ty a b)) [] nx | .neq => Q (.bool (!eqT ty a b)) [] nx | _ => .fail)
        | _, _ => .fail) else .fail
     | none => .fail)
  | _, _ => .fail
theorem closeT_flat {A : Nat → Prop} {φ : Ph} {t : Ty} (hf : flatT t = true) : ∀ {l r : List Seg} {cs : List Value} {x : t.den}, RelG φ A l cs → closeT [] t l = some (x, r) → ∃ c1 c2, cs = c1 ++ c2 ∧ RelG φ A r c2 ∧ ∀ N w, RepD N w t c1 x := by
  induction t with
  | pr a b iha ihb =>
    intro l r cs x hG hc
    simp only [flatT, Bool.and_eq_true] at hf
    unfold closeT at hc
    split at hc
    · rename_i x1 l1 h1
      split at hc
      · rename_i y1 l2 h2
        cases hc
        obtain ⟨c1, c2, rfl, g1, d1⟩ := iha hf.1 hG h1
        obtain ⟨c3, c4, rfl, g2, d2⟩ := ihb hf.2 g1 h2
        exact ⟨c1 ++ c3, c4, by rw [List.append_assoc], g2, fun N w => ⟨c1, c3, rfl, d1 N w, d2 N w⟩⟩
      · cases hc
    · cases hc
  | sl t => cases hf
  | raw => cases hf
  | int k =>
    intro l r cs x hG hc
    unfold closeT at hc
    split at hc <;> try cases hc
    split at hc
    · rename_i he; subst he; cases hc
      obtain ⟨c, cs', rfl, h1, _, h3⟩ := hG
      exact ⟨[c], cs', rfl, h3, fun N w => by rw [show c = _ from h1]; rfl⟩
    · cases hc
  | bool =>
    intro l r cs x hG hc
    unfold closeT at hc
    split at hc <;> cases hc
    obtain ⟨c, cs', rfl, h1, _, h3⟩ := hG
    exact ⟨[c], cs', rfl, h3, fun N w => by rw [show c = _ from h1]; rfl⟩
  | str =>
    intro l r cs x hG hc
    unfold closeT at hc
    split at hc <;> cases hc
    obtain ⟨c, cs', rfl, h1, _, h3⟩ := hG
    exact ⟨[c], cs', rfl, h3, fun N w => by rw [show c = _ from h1]; rfl⟩
  | arr k n =>
    intro l r cs x hG hc
    unfold closeT at hc
    split at hc <;> try cases hc
    split at hc
    · rename_i he; obtain ⟨rfl, rfl⟩ := he; cases hc
      obtain ⟨cs', rfl, h1⟩ := hG
      exact ⟨_, cs', rfl, h1, fun N w => rfl⟩
    · cases hc
theorem eqAggV_spec {op : BinOp} {t ty2 : TypeId} {x y : Operand} {r : SR} (ho : o.op = .binOp op t x y ty2) (h : PT.Ends (eqAggV P op t lo (evV Ev x) (evV Ev y)) r) : OpS P Ev H lo o r := by
  unfold eqAggV at h
  split at h
  · rename_i l m ex ey
    split at h
    · rename_i ty ht
      cases hc : flatT ty && !P.eqGuardType P.depth t && aggT P t with
      | false => rw [hc] at h; exact h.elim
      | true =>
        rw [hc] at h
        simp only [Bool.and_eq_true, Bool.not_eq_true'] at hc
        simp only [cond_true] at h
        split at h
        · rename_i a b ha hb
          have run : ∀ (A : Nat → Prop) (φ : Ph) (w : World) (E : Env), OR φ A Ev E o → ∃ cs ds, E.ev x = .agg cs ∧ E.ev y = .agg ds ∧ (Op.equalIn 10000 t (.agg cs) (.agg ds)).run P w = .ok (eqT ty a b) w := by
            intro A φ w E hO
            obtain ⟨cs, e1, g1⟩ := hO x (by rw [ho]; simp [Op.operands]) _ ex
            obtain ⟨ds, e2, g2⟩ := hO y (by rw [ho]; simp [Op.operands]) _ ey
            obtain ⟨c1, c2, q1, q2, q3⟩ := closeT_flat hc.1.1 g1 ha
            obtain ⟨d1, d2, r1, r2, r3⟩ := closeT_flat hc.1.1 g2 hb
            have q2' : c2 = [] := q2
            have r2' : d2 = [] := r2
            subst q2'; subst r2'
            rw [List.append_nil] at q1 r1
            subst q1; subst r1
            exact ⟨_, _, e1, e2, equalIn_ty (N := fun _ => False) 10 (by decide) ht hc.1.1 (q3 _ w) (r3 _ w) (.inl ⟨hc.2, rfl⟩) (.inl ⟨hc.2, rfl⟩)⟩
          split at h
          · cases h
            refine OpS.quiet fun A φ H1 w E hO hH hr => ?_
            obtain ⟨cs, ds, e1, e2, e3⟩ := run A φ w E hO
            exact ⟨_, execOp_bin (by rw [e1, e2]; exact run_eqGuard_agg w _ t x y _ _ hc.1.2) (by rw [e1, e2, run_eql_struct, e3]; rfl) ho, rfl⟩
          · cases h
            refine OpS.quiet fun A φ H1 w E hO hH hr => ?_
            obtain ⟨cs, ds, e1, e2, e3⟩ := run A φ w E hO
            exact ⟨_, execOp_bin (by rw [e1, e2]; exact run_eqGuard_agg w _ t x y _ _ hc.1.2) (by rw [e1, e2, run_neq_struct, e3]; rfl) ho, rfl⟩
          · exact h.elim
        · exact h.elim
    · exact h.elim
  · exact h.elim
end
end Go.Sat
end
section
namespace Go.Sat
open Go

section
variable {P : Program} {Ev : VEnv} {H : Hp} {lo : Nat} {o : Oper}

/-! ### parts laid into cells -/
theorem fold_splice (off : Nat) : ∀ (vs : List Value) (s : Nat) (cs : Array Value), off + s + vs.length ≤ cs.size →
    ((vs.zipIdx s).foldl (fun (cs : Array Value) (x : Value × Nat) => cs.setIfInBounds (off + x.2) x.1) cs).toList = splice cs.toList (off + s) vs := by
  intro vs
  induction vs with
  | nil => intro s cs _; simp [splice]
  | cons v vs ih =>
    intro s cs h
    simp only [List.length_cons] at h
    rw [List.zipIdx_cons, List.foldl_cons, ih (s + 1) _ (by simp; omega)]
    simp only [Array.toList_setIfInBounds]
    unfold splice
    rw [show off + (s + 1) = (off + s) + 1 by omega, List.take_add_one, List.length_cons]
    rw [List.take_set_of_le (Nat.le_refl _), List.getElem?_set_self (by simp; omega), List.drop_set_of_lt (by omega)]
    simp [Nat.add_assoc, Nat.add_comm 1]
theorem fill_cons {place : Nat → Option (Nat × Nat)} {cs : Array Value} {i off size : Nat} {v : Value} {rest : List (Nat × Value)} (hp : place i = some (off, size)) (hs : v.cells.size = size) (hl : off + size ≤ cs.size) :
    Instr.fill place cs ((i, v) :: rest) = Instr.fill place (splice cs.toList off v.cells.toList).toArray rest := by
  have h1 : ¬ ((decide (v.cells.size ≠ size) || decide (off + v.cells.size > cs.size)) = true) := by
    simp [hs]; omega
  have h2 := fold_splice off v.cells.toList 0 cs (by simp; omega)
  conv => lhs; unfold Instr.fill
  simp only [hp]
  rw [if_neg h1]
  congr 1
  apply Array.ext'
  rw [Nat.add_zero] at h2
  rw [← h2, ← Array.foldl_toList]
  congr 1
  simp
/-- the parts of a struct or an array that is written out -/
def putParts (place : Nat → Option (Nat × Nat)) : List Seg → List (Nat × Option VV) → Option (List Seg)
  | z, [] => some z
  | z, (i, some vv) :: r =>
    (match place i, toSegs vv with
     | some (off, size), some ss => bif Nat.beq (segsN ss) size then (match segPut z off ss with | some z' => putParts place z' r | none => none) else none
     | _, _ => none)
  | _, (_, none) :: _ => none
theorem putParts_spec {place : Nat → Option (Nat × Nat)} {A : Nat → Prop} {φ : Ph} : ∀ {ps : List (Nat × Option VV)} {us : List Value} {z z' : List Seg} {cs : List Value}, putParts place z ps = some z' → RelG φ A z cs → ps.length = us.length →
    (∀ (k : Nat) i vv u, ps[k]? = some (i, some vv) → us[k]? = some u → RelV φ A vv u) → ∃ cs', Instr.fill place cs.toArray ((ps.zip us).map fun x => (x.1.1, x.2)) = some cs'.toArray ∧ RelG φ A z' cs' := by
  intro ps
  induction ps with
  | nil => intro us z z' cs h hG _ _; cases h; exact ⟨cs, rfl, hG⟩
  | cons p ps ih =>
    intro us z z' cs h hG hl hr
    cases us with
    | nil => simp at hl
    | cons u us =>
      obtain ⟨i, ov⟩ := p
      cases ov with
      | none => cases h
      | some vv =>
        unfold putParts at h
        split at h
        · rename_i off size ss hp hss
          cases hb : Nat.beq (segsN ss) size with
          | false => rw [hb] at h; cases h
          | true =>
            rw [hb] at h
            simp only [cond_true] at h
            have hb := Nat.eq_of_beq_eq_true hb
            subst hb
            split at h
            · rename_i z2 hz2
              have hv := toSegs_spec hss (hr 0 i vv u rfl rfl)
              obtain ⟨hG2, hle⟩ := hG.put hv hz2
              obtain ⟨cs', h1, h2⟩ := ih (us := us) h hG2 (by simpa using hl) (fun k i vv u h1 h2 => hr (k + 1) i vv u (by simpa using h1) (by simpa using h2))
              refine ⟨cs', ?_, h2⟩
              rw [List.zip_cons_cons, List.map_cons]
              have hlen := hv.len
              rw [fill_cons hp (by simpa using hlen) (by simp; rw [← hlen]; simpa using hle)]
              exact h1
            · cases h
        · cases h
def evParts (Ev : VEnv) (ps : Array (Nat × Operand)) : List (Nat × Option VV) := ps.toList.map fun x => (x.1, evV Ev x.2)
def setInts (k : IntKind) (n : Nat) : Arr n → List (Nat × Option VV) → Option (Arr n)
  | a, [] => some a
  | a, (i, some (.a (.one (.b (.int k' x))))) :: r => if k' = k ∧ i < n then setInts k n (a.set i x) r else none
  | _, _ => none
theorem setInts_cons {k : IntKind} {n i : Nat} {ov : Option VV} {z a : Arr n} {r : List (Nat × Option VV)} (h : setInts k n z ((i, ov) :: r) = some a) : ∃ x, ov = some (.a (.one (.b (.int k x)))) ∧ i < n ∧ setInts k n (z.set i x) r = some a := by
  unfold setInts at h
  split at h
  · rename_i e; cases e
  · rename_i e
    cases e
    split at h
    · rename_i hc
      obtain ⟨rfl, hi⟩ := hc
      exact ⟨_, rfl, hi, h⟩
    · cases h
  · cases h
def placeS (P : Program) (fs : Array Field) (i : Nat) : Option (Nat × Nat) := match fs[i]? with | some f => some (f.offset, P.cellsOf f.type) | none => none
def buildV (P : Program) (t : TypeId) (nx : Nat) (ps : List (Nat × Option VV)) : PT SR :=
  match P.underlying t with
  | some (.struct fs) => bif fs.toList.all (fun f => (P.info? f.type).isSome) then (match zeroSegs P t with | some z => (match putParts (placeS P fs) z ps with | some l => Q (.a (.agg l)) [] nx | none => .fail) | none => .fail) else .fail
  | some (.array n e) =>
    (match zeroSegs P t with
     | some [.arr k n' z] => bif decide ((P.info? e).map (·.size) = some 1) then (match setInts k n' z ps with | some a => Q (.a (.agg [.arr k n' a])) [] nx | none => .fail) else .fail
     | _ => .fail)
  | _ => .fail
theorem zero_run {T : TypeId} {z : List Seg} (h : zeroSegs P T = some z) (w : World) : ∃ v : Value, (zeroValue T).run P w = .ok v w ∧ ∀ φ A, RelG φ A z v.cells.toList := by
  unfold zeroSegs at h
  split at h
  · rename_i zs ly hz hly
    obtain ⟨v, hv, hr⟩ := run_zero (w := w) hz
    exact ⟨v, hr, fun φ A => by rw [hv]; exact parse_spec h φ A⟩
  · cases h
theorem build_he {t : TypeId} {ps : Array (Nat × Operand)} {E : Env} (ho : o.op = .build t ps) : execOp E.ev o = (do pure (Next.value (← Instr.build t (ps.map fun (i, x) => (i, E.ev x))))) := by
  unfold execOp; rw [ho]
theorem parts_zip {Ev : VEnv} {E : Env} (ps : Array (Nat × Operand)) : (ps.map fun (i, x) => (i, E.ev x)).toList = ((evParts Ev ps).zip (ps.toList.map fun x => E.ev x.2)).map fun x => (x.1.1, x.2) := by
  unfold evParts
  rw [Array.toList_map]
  generalize ps.toList = l
  induction l with
  | nil => rfl
  | cons x l ih => simp [ih]
theorem buildV_spec {t : TypeId} {ps : Array (Nat × Operand)} {r : SR} (ho : o.op = .build t ps) (h : PT.Ends (buildV P t lo (evParts Ev ps)) r) : OpS P Ev H lo o r := by
  have rel : ∀ (A : Nat → Prop) (φ : Ph) (E : Env), OR φ A Ev E o → ∀ (k : Nat) i vv u, (evParts Ev ps)[k]? = some (i, some vv) → (ps.toList.map fun x => E.ev x.2)[k]? = some u → RelV φ A vv u := by
    intro A φ E hO k i vv u h1 h2
    unfold evParts at h1
    rw [List.getElem?_map] at h1 h2
    cases hp : ps.toList[k]? with
    | none => rw [hp] at h1; cases h1
    | some p =>
      rw [hp] at h1 h2
      simp only [Option.map_some, Option.some.injEq, Prod.mk.injEq] at h1 h2
      rw [← h2]
      refine hO p.2 ?_ vv h1.2
      rw [ho]
      have := List.mem_of_getElem? hp
      simp only [Op.operands, List.mem_toArray, List.mem_map]
      exact ⟨p, this, rfl⟩
  unfold buildV at h
  split at h
  · rename_i fs hu
    cases hc : fs.toList.all (fun f => (P.info? f.type).isSome) with
    | false => rw [hc] at h; exact h.elim
    | true =>
      rw [hc] at h
      simp only [cond_true] at h
      split at h
      · rename_i z hz
        split at h
        · rename_i l hl
          cases h
          refine OpS.quiet fun A φ H1 w E hO hH hr => ?_
          obtain ⟨v, hv, hG⟩ := zero_run (P := P) hz w
          obtain ⟨cs', h1, h2⟩ := putParts_spec hl (hG φ A) (by simp [evParts]) (rel A φ E hO)
          refine ⟨.agg cs'.toArray, run_of (build_he ho) ?_, cs', rfl, h2⟩
          unfold Instr.build
          have hm : (fs.mapM fun f => do pure (f.offset, ← sizeOf f.type) : Sem (Array (Nat × Nat))).run P w = .ok (fs.map fun f => (f.offset, P.cellsOf f.type)) w := by
            rw [Array.mapM_eq_mapM_toList, map_eq_pure_bind, Sem.run_bind, run_mapM_list _ fs.toList (fs.toList.map fun f => (f.offset, P.cellsOf f.type)) (fun i x y hx hy => ?_) (by simp)]
            · have : (fs.toList.map fun f => (f.offset, P.cellsOf f.type)).toArray = fs.map fun f => (f.offset, P.cellsOf f.type) := by apply Array.ext'; simp
              rw [← this]
              rfl
            · rw [List.getElem?_map, hx] at hy
              simp only [Option.map_some, Option.some.injEq] at hy
              subst hy
              have := List.all_eq_true.1 hc x (List.mem_of_getElem? hx)
              obtain ⟨inf, hinf⟩ := Option.isSome_iff_exists.1 this
              simp [sizeOf, typeInfo, program, Sem.run, hinf, cellsOf_info hinf]
          have hpl : (fun x => (fs.map fun f => (f.offset, P.cellsOf f.type))[x]?) = placeS P fs := by
            funext i
            unfold placeS
            rw [Array.getElem?_map]
            cases fs[i]? <;> rfl
          simp only [Sem.run_bind, hv, Result.andThen_ok, run_underlying hu, hm]
          rw [hpl, parts_zip (Ev := Ev), show v.cells = v.cells.toList.toArray by simp, h1]
          rfl
        · exact h.elim
      · exact h.elim
  · rename_i n e hu
    split at h
    · rename_i k n' z hz
      cases hc : decide ((P.info? e).map (·.size) = some 1) with
      | false => rw [hc] at h; exact h.elim
      | true =>
        rw [hc] at h
        have hc : (P.info? e).map (·.size) = some 1 := of_decide_eq_true hc
        simp only [cond_true] at h
        split at h
        · rename_i a ha
          cases h
          refine OpS.quiet fun A φ H1 w E hO hH hr => ?_
          obtain ⟨v, hv, hG⟩ := zero_run (P := P) hz w
          obtain ⟨cs', e1, e2⟩ := hG φ A
          have e2' : cs' = [] := e2
          subst e2'
          rw [List.append_nil] at e1
          have key : ∀ (qs : List (Nat × Option VV)) (us : List Value) (z a : Arr n'), setInts k n' z qs = some a → qs.length = us.length → (∀ (k : Nat) i vv u, qs[k]? = some (i, some vv) → us[k]? = some u → RelV φ A vv u) →
              Instr.fill (fun i => some (i * 1, 1)) (ints k z.l).toArray ((qs.zip us).map fun x => (x.1.1, x.2)) = some (ints k a.l).toArray := by
            intro qs
            induction qs with
            | nil => intro us z a h _ _; cases h; rfl
            | cons q qs ih =>
              intro us z a h hl hr
              cases us with
              | nil => simp at hl
              | cons u us =>
                obtain ⟨i, ov⟩ := q
                obtain ⟨x, rfl, hi, h⟩ := setInts_cons h
                have hu' : u = .int k x := hr 0 i _ u rfl rfl
                subst hu'
                rw [List.zip_cons_cons, List.map_cons, fill_cons (off := i * 1) (size := 1) rfl rfl (by simp only [List.size_toArray, length_ints, Arr.h]; omega)]
                have : splice (ints k z.l).toArray.toList (i * 1) (Value.cells (.int k x)).toList = ints k (z.set i x).l := by
                  show splice (ints k z.l) (i * 1) [.int k x] = _
                  rw [splice_one _ _ _ (by rw [length_ints, z.h]; omega), Nat.mul_one, ints_set]; rfl
                show Instr.fill _ (splice (ints k z.l).toArray.toList (i * 1) (Value.cells (.int k x)).toList).toArray _ = _
                rw [this]
                exact ih us (z.set i x) a h (by simpa using hl) (fun k i vv u h1 h2 => hr (k + 1) i vv u (by simpa using h1) (by simpa using h2))
          have hfill := key (evParts Ev ps) (ps.toList.map fun x => E.ev x.2) z a ha (by simp [evParts]) (rel A φ E hO)
          have hsz : (sizeOf e).run P w = .ok 1 w := by
            cases hi : P.info? e with
            | none => simp [hi] at hc
            | some inf => have : inf.size = 1 := by simpa [hi] using hc
                          simp [sizeOf, typeInfo, program, Sem.run, hi, this]
          refine ⟨.agg (ints k a.l).toArray, run_of (build_he ho) ?_, _, rfl, [], by simp, rfl⟩
          unfold Instr.build
          simp only [Sem.run_bind, hv, Result.andThen_ok, run_underlying hu, hsz]
          rw [parts_zip (Ev := Ev), show v.cells = v.cells.toList.toArray by simp, e1, hfill]
          rfl
        · exact h.elim
    · exact h.elim
  · exact h.elim

/-! ### functions as values -/
def bvs : List (Option VV) → Option (List BV)
  | [] => some []
  | some (.a (.one (.b x))) :: r => (match bvs r with | some l => some (x :: l) | none => none)
  | _ => none
theorem bvs_spec {A : Nat → Prop} {φ : Ph} {E : Env} : ∀ {xs : List Operand} {l : List BV}, bvs (xs.map (evV Ev)) = some l → (∀ x ∈ xs, ∀ vv, evV Ev x = some vv → RelV φ A vv (E.ev x)) → All2 (fun x v => RelB φ A x v) l (xs.map E.ev) := by
  intro xs
  induction xs with
  | nil => intro l h _; cases h; trivial
  | cons x xs ih =>
    intro l h hr
    rw [List.map_cons] at h
    unfold bvs at h
    split at h
    · rename_i e; cases e
    · rename_i b r e
      simp only [List.cons.injEq] at e
      obtain ⟨e1, e2⟩ := e
      subst e2
      split at h
      · rename_i l' hl'
        cases h
        exact ⟨hr x (List.mem_cons_self ..) _ e1, ih hl' fun y hy => hr y (List.mem_cons_of_mem _ hy)⟩
      · cases h
    · cases h
def funcV (f : Fn) (nx : Nat) (fs cs : List (Option VV)) : PT SR :=
  match bvs fs, bvs cs with
  | some l, some m => Q (.a (.one (.fn f l m))) [] nx
  | _, _ => .fail
theorem funcV_spec {f : Fn} {fs cs : Array Operand} {r : SR} (ho : o.op = .makeFunc f fs cs) (h : PT.Ends (funcV f lo (fs.toList.map (evV Ev)) (cs.toList.map (evV Ev))) r) : OpS P Ev H lo o r := by
  unfold funcV at h
  split at h
  · rename_i l m hl hm
    cases h
    refine OpS.quiet fun A φ H1 w E hO hH hr => ?_
    have h1 := bvs_spec (E := E) (A := A) (φ := φ) hl fun x hx => hO x (by rw [ho]; exact Array.mem_append.2 (.inl (Array.mem_toList_iff.1 hx)))
    have h2 := bvs_spec (E := E) (A := A) (φ := φ) hm fun x hx => hO x (by rw [ho]; exact Array.mem_append.2 (.inr (Array.mem_toList_iff.1 hx)))
    refine ⟨.func f (fs.toList.map E.ev).toArray (cs.toList.map E.ev).toArray, ?_, _, _, rfl, h1, h2⟩
    unfold execOp; rw [ho]
    simp only [Instr.makeFunc]
    rw [show fs.map E.ev = (fs.toList.map E.ev).toArray by apply Array.ext'; simp, show cs.map E.ev = (cs.toList.map E.ev).toArray by apply Array.ext'; simp]
    rfl
  · exact h.elim

/-! ### bytes as a string -/
def toStrV (P : Program) (src dst : TypeId) (H : Hp) (nx : Nat) (x : Option VV) : PT SR :=
  match P.underlying src, P.underlying dst, x with
  | some (.slice e), some .string, some (.a (.one (.b b))) =>
    (match P.underlying e with
     | some (.int .u8) => (match slCont H (.int .u8) b with | some l => Q (.b (.str (bytesOf l))) (bvIds b) nx | none => .fail)
     | _ => .fail)
  | _, _, _ => .fail
theorem flat_ints {N : Nat → Prop} {w : World} {k : IntKind} {css : List (List Value)} {l : List Int} (h : All2 (fun cs x => RepD N w (.int k) cs x) css l) : css.flatten = ints k l := by
  induction css generalizing l with
  | nil => cases l with
    | nil => rfl
    | cons _ _ => cases h
  | cons c css ih => cases l with
    | nil => cases h
    | cons y l =>
      rw [List.flatten_cons, show c = _ from h.1, ih h.2]; rfl
theorem toStrV_spec {src dst : TypeId} {x : Operand} {r : SR} (ho : o.op = .convert src dst x) (h : PT.Ends (toStrV P src dst H lo (evV Ev x)) r) : OpS P Ev H lo o r := by
  unfold toStrV at h
  split at h
  · rename_i e b hs hd ex
    split at h
    · rename_i he
      split at h
      · rename_i l hl
        cases h
        refine ⟨Nat.le_refl _, fun A φ H1 w E hO hH hr hf => does_eq ?_⟩
        obtain ⟨a, c, css, e1, hl1, hl2, hc, hR⟩ := sl_cont (l := l) hH (hO x (by rw [ho]; simp [Op.operands]) _ ex) (by rw [slCont_agree hr]; exact hl)
        rw [ho]
        refine Does.toString hs he hd e1 (by rw [← flat_ints hc]; exact hR) rfl ?_
        exact ⟨A, φ, rfl, Stp.refl hH, fun _ h => .inl h⟩
      · exact h.elim
    · exact h.elim
  · exact h.elim
/-- the address of a slice, as an array's -/
def toArrV (P : Program) (t : TypeId) (H : Hp) (nx : Nat) (x : Option VV) : PT SR :=
  match P.underlying t, x with
  | some (.array n _), some (.a (.one (.b (.row j)))) =>
    (match rowLen H j, rowSz H j with
     | some m, some sz => bif Nat.blt 0 n then .chk (decide (n ≤ m)) (Q (.b (.ptr j 0 0 sz)) [j] nx) else .fail
     | _, _ => .fail)
  | some (.array n _), some (.a (.one (.b (.sl j fo i sz len _)))) => bif Nat.blt 0 n then .chk (decide (n ≤ len)) (Q (.b (.ptr j fo i sz)) [] nx) else .fail
  | _, _ => .fail
theorem toArrV_spec {t : TypeId} {x : Operand} {r : SR} (ho : o.op = .sliceToArrayPointer t x) (h : PT.Ends (toArrV P t H lo (evV Ev x)) r) : OpS P Ev H lo o r := by
  have run : ∀ {n e len cap : Nat} {a : Option Addr} {E : Env} {w : World}, P.underlying t = some (.array n e) → E.ev x = .slice a len cap → n ≤ len → (execOp E.ev o).run P w = .ok (.value (.pointer a)) w := by
    intro n e len cap a E w hu hx hl
    refine run_of (s := Instr.arrayAt t (E.ev x)) (by unfold execOp; rw [ho]) ?_
    have : ¬ len < n := by omega
    rw [hx]
    unfold Instr.arrayAt
    simp only [Sem.run_bind, run_underlying hu, Result.andThen_ok, this, if_false, Sem.run_pure]
  unfold toArrV at h
  split at h
  · rename_i n e j hu ex
    split at h
    · rename_i m sz hm hs
      cases hb : Nat.blt 0 n with
      | false => rw [hb] at h; exact h.elim
      | true =>
        rw [hb] at h
        have hb : 0 < n := by simpa [Nat.blt_eq] using hb
        obtain ⟨hc, h⟩ := PT.ends_chk.1 h
        cases h
        have hc : n ≤ m := of_decide_eq_true hc
        refine OpS.quiet fun A φ H1 w E hO hH hr => ?_
        obtain ⟨hA, e1, k1, k2⟩ := hO x (by rw [ho]; simp [Op.operands]) _ ex
        have hcl := clen_of hH (by rw [rowLen_agree (hr j (by simp))]; exact hm)
        cases ha : (φ j).addr with
        | none => have := k2 ha; omega
        | some ad =>
          refine ⟨.pointer (some ad), ?_, hA, ad, ha, by simp [add_zero]⟩
          rw [← ha]
          exact run hu e1 (by rw [hcl]; exact hc)
    · exact h.elim
  · rename_i n e j fo i sz len top hu ex
    cases hb : Nat.blt 0 n with
    | false => rw [hb] at h; exact h.elim
    | true =>
      rw [hb] at h
      have hb : 0 < n := by simpa [Nat.blt_eq] using hb
      obtain ⟨hc, h⟩ := PT.ends_chk.1 h
      cases h
      have hc : n ≤ len := of_decide_eq_true hc
      refine OpS.quiet fun A φ H1 w E hO hH hr => ?_
      obtain ⟨hA, a, cp, e1, k1, k2, k3, k4, _⟩ := hO x (by rw [ho]; simp [Op.operands]) _ ex
      obtain ⟨ad0, q1, q2⟩ := k4 (by omega)
      exact ⟨.pointer a, run hu e1 hc, hA, ad0, q1, by rw [q2]⟩
  · exact h.elim
/-- an array out of a row, or out of a longer array -/
def loadArr (P : Program) (T : TypeId) (H : Hp) (nx : Nat) (x : Option VV) : PT SR :=
  match P.underlying T, x with
  | some (.array n e), some (.a (.one (.b (.ptr j fo i 1)))) =>
    (match P.underlying e with
     | some (.int k) =>
       bif aggT P T && Nat.beq (P.cellsOf T) n then
       (match H.get j with
        | some (.blk _ l) => (match arrIn l fo with
          | some (k', ⟨n', a⟩) => bif decide (k' = k) then .chk (decide (i + n ≤ n')) (Q (.a (.agg [.arr k n (Arr.of n ((a.l.drop i).take n))])) [j] nx) else .fail
          | none => .fail)
        | _ => (match fo, rowAll H j (.int k) with
          | 0, some l => .chk (decide (i + n ≤ List.length l)) (Q (.a (.agg [.arr k n (Arr.of n ((List.drop i l).take n))])) [j] nx)
          | _, _ => .fail)) else .fail
     | _ => .fail)
  | _, _ => .fail
theorem loadArr_spec {T : TypeId} {x : Operand} {r : SR} (ho : o.op = .load T x) (h : PT.Ends (loadArr P T H lo (evV Ev x)) r) : OpS P Ev H lo o r := by
  unfold loadArr at h
  split at h
  · rename_i n e j fo i hu ex
    split at h
    · rename_i k hk
      cases hc : aggT P T && Nat.beq (P.cellsOf T) n with
      | false => rw [hc] at h; exact h.elim
      | true =>
        rw [hc] at h
        simp only [Bool.and_eq_true] at hc
        obtain ⟨hagg, hn⟩ := hc
        have hn := Nat.eq_of_beq_eq_true hn
        simp only [cond_true] at h
        have fin : ∀ {w : World} {E : Env} {φ : Ph} {A : Nat → Prop} {ad : Addr} {ys : List Int}, E.ev x = .pointer (some ad) → ys.length = n → (∀ q u, (ints k ys)[q]? = some u → w.cell? (ad.add q) = some u) →
            ∃ u, (execOp E.ev o).run P w = .ok (.value u) w ∧ RelV φ A (.a (.agg [.arr k n (Arr.of n ys)])) u := by
          intro w E φ A ad ys ev hl hcell
          refine ⟨.agg (ints k ys).toArray, run_of (load_he ho ev) (loadVar_agg hagg (by rw [hn, length_ints, hl]) hcell), _, rfl, [], ?_, rfl⟩
          rw [Arr.of_l hl, List.append_nil]
        split at h
        · rename_i T0 l hg
          split at h
          · rename_i k' n' a harr
            cases hkk : decide (k' = k) with
            | false => rw [hkk] at h; exact h.elim
            | true =>
              rw [hkk] at h
              have hkk : k' = k := of_decide_eq_true hkk
              subst hkk
              obtain ⟨hb, h⟩ := PT.ends_chk.1 h
              cases h
              have hb : i + n ≤ n' := of_decide_eq_true hb
              refine OpS.quiet fun A φ H1 w E hO hH hr => ?_
              obtain ⟨hA, ad, ha, ev⟩ := hO x (by rw [ho]; simp [Op.operands]) _ ex
              obtain ⟨g, cs, e1, hB, hG⟩ := hH.obj j _ (by rw [hr j (by simp)]; exact hg)
              rw [e1] at ha; cases ha
              unfold arrIn at harr
              split at harr
              · rename_i hd
                cases harr
                obtain ⟨⟨cs', e2, _⟩, hle⟩ := hG.drop hd
                refine fin ev (by rw [List.length_take, List.length_drop, a.h]; omega) fun q u hq => ?_
                rw [add_mk, add_mk, hB.cell]
                rw [ints_take, ints_drop] at hq
                have hqn : q < n := by have := (List.getElem?_eq_some_iff.1 hq).1; rw [List.length_take] at this; omega
                rw [List.getElem?_take_of_lt hqn, List.getElem?_drop] at hq
                have : (cs.drop fo)[i + q]? = some u := by rw [e2, List.getElem?_append_left (List.getElem?_eq_some_iff.1 hq).1]; exact hq
                rw [List.getElem?_drop] at this
                rw [← this]; congr 1; omega
              · cases harr
          · exact h.elim
        · split at h
          · rename_i l hl
            obtain ⟨hb, h⟩ := PT.ends_chk.1 h
            cases h
            have hb : i + n ≤ List.length l := of_decide_eq_true hb
            refine OpS.quiet fun A φ H1 w E hO hH hr => ?_
            obtain ⟨hA, ad, ha, ev⟩ := hO x (by rw [ho]; simp [Op.operands]) _ ex
            obtain ⟨_, _, _, _, _, css, hc, hR⟩ := rowAll_spec hH (by rw [rowAll_agree (hr j (by simp))]; exact hl)
            rw [flat_ints hc] at hR
            refine fin ev (by rw [List.length_take, List.length_drop]; omega) fun q u hq => ?_
            rw [ints_take, ints_drop] at hq
            have hqn : q < n := by have := (List.getElem?_eq_some_iff.1 hq).1; rw [List.length_take] at this; omega
            rw [List.getElem?_take_of_lt hqn, List.getElem?_drop] at hq
            obtain ⟨ad', e', h'⟩ := hR _ _ hq
            rw [ha] at e'; cases e'
            rw [add_add, show 0 + i * 1 + q = i + q by omega]; exact h'
          · exact h.elim
    · exact h.elim
  · exact h.elim
end
end Go.Sat
end
section
namespace Go.Sat
open Go

section
variable {P : Program} {Ev : VEnv} {H : Hp} {lo : Nat} {o : Oper}

theorem noBlk_agree {H1 : Hp} {ids : List Nat} (hg : ∀ j ∈ ids, H1.get j = H.get j) : noBlk H1 ids = noBlk H ids := by
  unfold noBlk
  have key : ∀ l : List Nat, (∀ j ∈ l, H1.get j = H.get j) → (l.all fun j => match H1.get j with | some (.hid _) => false | some (.rcd _ _) => false | some (.rdn _) => false | _ => true) = (l.all fun j => match H.get j with | some (.hid _) => false | some (.rcd _ _) => false | some (.rdn _) => false | _ => true) := by
    intro l
    induction l with
    | nil => intro _; rfl
    | cons j l ih => intro h; rw [List.all_cons, List.all_cons, ih fun i hi => h i (List.mem_cons_of_mem _ hi), h j (List.mem_cons_self ..)]
  exact key ids hg
theorem closeT_agree {H1 : Hp} : ∀ {t : Ty} {l : List Seg}, (∀ j ∈ segIds l, H1.get j = H.get j) → closeT H1 t l = closeT H t l := by
  intro t
  induction t with
  | pr a b iha ihb =>
    intro l h
    unfold closeT
    rw [iha h]
    cases hc : closeT H a l with
    | none => rfl
    | some x =>
      obtain ⟨x, r⟩ := x
      have sub : ∀ j ∈ segIds r, j ∈ segIds l := by
        have key : ∀ (t : Ty) (l r : List Seg) (x : t.den), closeT H t l = some (x, r) → ∀ j ∈ segIds r, j ∈ segIds l := by
          intro t
          induction t with
          | pr a b iha ihb =>
            intro l r x h j hj
            unfold closeT at h
            split at h
            · rename_i x1 l1 h1
              split at h
              · rename_i y1 l2 h2; cases h; exact iha _ _ _ h1 j (ihb _ _ _ h2 j hj)
              · cases h
            · cases h
          | int k =>
            intro l r x h j hj
            unfold closeT at h
            split at h <;> try cases h
            split at h
            · cases h; simpa [segIds, bvIds] using hj
            · cases h
          | arr k n =>
            intro l r x h j hj
            unfold closeT at h
            split at h <;> try cases h
            split at h
            · cases h; simpa [segIds] using hj
            · cases h
          | sl t =>
            intro l r x h j hj
            unfold closeT at h
            split at h <;> try cases h
            split at h
            · cases h; simp [segIds, hj]
            · cases h
          | _ =>
            intro l r x h j hj
            unfold closeT at h
            split at h <;> cases h
            simpa [segIds, bvIds] using hj
        exact key a l r x hc
      simp only [ihb fun j hj => h j (sub j hj)]
  | sl t =>
    intro l h
    unfold closeT
    split
    · rename_i v r
      rw [slCont_agree fun j hj => h j (by simp [segIds, hj])]
    · rfl
  | _ => intro l h; rfl

/-! ### a slice written out -/
def closeAll (H : Hp) (t : Ty) : List (Nat × Option VV) → Nat → Option (List t.den × List Nat)
  | [], _ => some ([], [])
  | (i, some vv) :: r, k =>
    bif Nat.beq i k then
      (match toSegs vv with
       | some ss => (match closeT H t ss with
         | some (x, []) => (match closeAll H t r (k + 1) with | some (xs, ids) => some (x :: xs, segIds ss ++ ids) | none => none)
         | _ => none)
       | none => none)
    else none
  | (_, none) :: _, _ => none
theorem closeAll_spec {A : Nat → Prop} {φ : Ph} {H1 : Hp} {w : World} (h : RepH A φ H1 w) {t : Ty} : ∀ {ps : List (Nat × Option VV)} {us : List Value} {k : Nat} {xs : List t.den} {ids : List Nat}, closeAll H t ps k = some (xs, ids) → ps.length = us.length →
    (∀ (k : Nat) i vv u, ps[k]? = some (i, some vv) → us[k]? = some u → RelV φ A vv u) → (∀ j ∈ ids, H1.get j = H.get j) →
    ∃ css : List (List Value), us.map (fun u => u.cells.toList) = css ∧ ps.map (·.1) = List.range' k ps.length ∧ css.length = ps.length ∧ List.length xs = ps.length ∧ (∀ N' : Nat → Prop, (∀ k, N' k → MB φ H1 k) → (∀ j ∈ ids, ∀ o, H1.get j = some o → o.mut = true → ∀ ad, (φ j).addr = some ad → ¬ N' ad.block) → All2 (fun cs x => RepD N' w t cs x) css xs) := by
  intro ps
  induction ps with
  | nil => intro us k xs ids hc hl _ _; cases hc; cases us with
    | nil => exact ⟨[], rfl, rfl, rfl, rfl, fun _ _ _ => trivial⟩
    | cons _ _ => simp at hl
  | cons p ps ih =>
    intro us k xs ids hc hl hr hg
    cases us with
    | nil => simp at hl
    | cons u us =>
      obtain ⟨i, ov⟩ := p
      cases ov with
      | none => cases hc
      | some vv =>
        unfold closeAll at hc
        cases hb : Nat.beq i k with
        | false => rw [hb] at hc; cases hc
        | true =>
          rw [hb] at hc
          have hb := Nat.eq_of_beq_eq_true hb
          subst hb
          simp only [cond_true] at hc
          split at hc
          · rename_i ss hss
            split at hc
            · rename_i x hx
              split at hc
              · rename_i xs' ids' hxs
                cases hc
                obtain ⟨css, h1, h2, h3, h4, h5⟩ := ih (us := us) hxs (by simpa using hl) (fun k i vv u h1 h2 => hr (k + 1) i vv u (by simpa using h1) (by simpa using h2)) (fun j hj => hg j (List.mem_append_right _ hj))
                have hv := toSegs_spec hss (hr 0 i vv u rfl rfl)
                have hx' : closeT H1 t ss = some (x, []) := by rw [closeT_agree fun j hj => hg j (List.mem_append_left _ hj)]; exact hx
                refine ⟨u.cells.toList :: css, by rw [List.map_cons, h1], by rw [List.map_cons, h2, List.length_cons, List.range'_succ], by simp [h3], by simp [h4], fun N' hs ho => ⟨?_, h5 N' hs fun j hj => ho j (List.mem_append_right _ hj)⟩⟩
                obtain ⟨⟨c1, c2, e1, e2, e3⟩, _⟩ := closeT_spec h hs hv hx' fun j hj => ho j (List.mem_append_left _ hj)
                have e2' : c2 = [] := e2
                subst e2'
                rw [List.append_nil] at e1
                rw [e1]; exact e3
              · cases hc
            · cases hc
          · cases hc
theorem fill_rows {size : Nat} : ∀ (us : List Value) (k : Nat) (is : List Nat) (pre rest : List Value), is = List.range' k us.length → pre.length = k * size → rest.length = us.length * size → (∀ u ∈ us, u.cells.toList.length = size) →
    Instr.fill (fun i => some (i * size, size)) (pre ++ rest).toArray (is.zip us) = some (pre ++ (us.map fun u => u.cells.toList).flatten).toArray := by
  intro us
  induction us with
  | nil =>
    intro k is pre rest e hp hr _
    subst e
    have : rest = [] := by simpa using hr
    subst this
    simp [Instr.fill]
  | cons u us ih =>
    intro k is pre rest e hp hr hu
    subst e
    have h0 := hu u (List.mem_cons_self ..)
    rw [List.length_cons, List.range'_succ, List.zip_cons_cons, fill_cons (off := k * size) (size := size) rfl (by simpa using h0) (by rw [List.size_toArray, List.length_append, hp, hr, List.length_cons, Nat.add_mul]; omega)]
    have hs : splice (pre ++ rest) (k * size) u.cells.toList = (pre ++ u.cells.toList) ++ rest.drop size := by
      unfold splice
      rw [h0, List.take_left' hp, ← hp, ← List.drop_drop, List.drop_left' rfl]
    show Instr.fill _ (splice (pre ++ rest) (k * size) u.cells.toList).toArray _ = _
    rw [hs, ih (k + 1) _ (pre ++ u.cells.toList) (rest.drop size) rfl (by rw [List.length_append, hp, h0, Nat.add_mul]; omega) (by rw [List.length_drop, hr, List.length_cons, Nat.add_mul]; omega) (fun v hv => hu v (List.mem_cons_of_mem _ hv))]
    simp
def bsV (P : Program) (t : TypeId) (len : Nat) (H : Hp) (nx : Nat) (ps : List (Nat × Option VV)) : PT SR :=
  match P.underlying t with
  | some (.slice e) =>
    (match tyOf P 10 e with
     | some ty =>
       bif tyOk P e ty && Nat.beq ps.length len && Nat.ble (len * ty.size) 16777216 then
       (match closeAll H ty ps 0 with
        | some (xs, ids) => bif noBlk H ids && !ids.contains nx then .ret ⟨.b (.row nx), (nx, .own ty e xs true) :: freeze H ids, ids, nx + 1⟩ else .fail
        | none => .fail) else .fail
     | none => .fail)
  | _ => .fail
theorem bsV_spec {t : TypeId} {len : Nat} {ps : Array (Nat × Operand)} {r : SR} (ho : o.op = .buildSlice t len ps) (h : PT.Ends (bsV P t len H lo (evParts Ev ps)) r) : OpS P Ev H lo o r := by
  have rel : ∀ (A : Nat → Prop) (φ : Ph) (E : Env), OR φ A Ev E o → ∀ (k : Nat) i vv u, (evParts Ev ps)[k]? = some (i, some vv) → (ps.toList.map fun x => E.ev x.2)[k]? = some u → RelV φ A vv u := by
    intro A φ E hO k i vv u h1 h2
    unfold evParts at h1
    rw [List.getElem?_map] at h1 h2
    cases hp : ps.toList[k]? with
    | none => rw [hp] at h1; cases h1
    | some p =>
      rw [hp] at h1 h2
      simp only [Option.map_some, Option.some.injEq, Prod.mk.injEq] at h1 h2
      rw [← h2]
      refine hO p.2 ?_ vv h1.2
      rw [ho]
      have := List.mem_of_getElem? hp
      simp only [Op.operands, List.mem_toArray, List.mem_map]
      exact ⟨p, this, rfl⟩
  unfold bsV at h
  split at h
  · rename_i e hu
    split at h
    · rename_i ty hty
      cases hc : tyOk P e ty && Nat.beq (evParts Ev ps).length len && Nat.ble (len * ty.size) 16777216 with
      | false => rw [hc] at h; exact h.elim
      | true =>
        rw [hc] at h
        simp only [Bool.and_eq_true] at hc
        obtain ⟨⟨hok, hlen⟩, hle⟩ := hc
        have hlen := Nat.eq_of_beq_eq_true hlen
        have hle : len * ty.size ≤ 16777216 := Nat.le_of_ble_eq_true hle
        simp only [cond_true] at h
        split at h
        · rename_i xs ids hxs
          cases hn : noBlk H ids && !ids.contains lo with
          | false => rw [hn] at h; exact h.elim
          | true =>
            rw [hn] at h
            simp only [Bool.and_eq_true, Bool.not_eq_true'] at hn
            obtain ⟨hnb, hnl⟩ := hn
            cases h
            obtain ⟨z, hrow, hsz, hzs, hk1, hk2⟩ := tyOk_spec hok
            refine ⟨Nat.le_succ _, fun A φ H1 w E hO hH hr hf => does_eq ?_⟩
            have hl : ¬ A lo := hf lo (Nat.le_refl _) (Nat.lt_succ_self _)
            obtain ⟨css, h1, h2, h3, h4, h5⟩ := closeAll_spec hH (us := ps.toList.map fun x => E.ev x.2) hxs (by simp [evParts]) (rel A φ E hO) hr
            have hd0 := h5 (fun _ => False) (fun _ h => h.elim) (fun _ _ _ _ _ _ _ h => h)
            have hcl : ∀ u ∈ ps.toList.map (fun x => E.ev x.2), u.cells.toList.length = ty.size := by
              intro u hu'
              obtain ⟨i, hi⟩ := List.getElem?_of_mem hu'
              have hci : css[i]? = some u.cells.toList := by rw [← h1, List.getElem?_map, hi]; rfl
              obtain ⟨x, _, hd⟩ := hd0.getl hci
              exact hd.len
            have hxl : List.length xs = len := by rw [h4, hlen]
            rw [ho]
            refine Does.buildSlice (cs := css.flatten) hu ?_ fun b w' hb hg hB => ?_
            · obtain ⟨i, hinf, hz, hsi, hby, hzc⟩ := rowT_spec hrow
              unfold fillOf
              rw [hinf]
              simp only
              have c1 : ¬ (len * i.size > 2 ^ 24) := by rw [hsi]; have : (2 : Nat) ^ 24 = 16777216 := by decide
                                                        omega
              rw [if_neg c1, parts_zip (Ev := Ev), hsi]
              have hzip : (((evParts Ev ps).zip (ps.toList.map fun x => E.ev x.2)).map fun x => (x.1.1, x.2)) = ((evParts Ev ps).map (·.1)).zip (ps.toList.map fun x => E.ev x.2) := by
                rw [List.zip_map_left]
                apply List.map_congr_left
                intro x _; rfl
              rw [hzip]
              have hul : (ps.toList.map fun x => E.ev x.2).length = len := by rw [← hlen]; simp [evParts]
              split
              · rename_i h0
                have hr0 := fill_rows (size := ty.size) (ps.toList.map fun x => E.ev x.2) 0 ((evParts Ev ps).map (·.1)) [] [] (by rw [h2]; congr 1; simp [evParts]) (by simp) (by rw [hul]; simpa using h0.symm) hcl
                rw [h1] at hr0
                simpa using hr0
              · rw [hz]
                have hr0 := fill_rows (size := ty.size) (ps.toList.map fun x => E.ev x.2) 0 ((evParts Ev ps).map (·.1)) [] ((Array.range (len * ty.size)).map (z.cells[· % z.cells.size]!)).toList (by rw [h2]; congr 1; simp [evParts]) (by simp) (by rw [hul]; simp) hcl
                rw [h1, List.nil_append, Array.toArray_toList] at hr0
                exact hr0
            · have hfl : css.flatten.length = len * ty.size := by rw [flat_len (fun _ _ h => RepD.len h) hd0, hxl]
              refine ⟨plus A lo, upd φ lo ⟨some ⟨b, 0, none⟩, len, len⟩, ⟨.inr rfl, by rw [upd_same], by rw [upd_same]; exact Nat.le_refl _, by rw [upd_same]; exact fun e => by cases e⟩, ?_, fun j hj => hj.imp id fun e => by subst e; exact ⟨Nat.le_refl _, Nat.lt_succ_self _⟩⟩
              rw [← freeze_agree hr]
              refine Stp.layF hH (agree_upd hl) (.inr rfl) hg.any (fun hm => by have := List.contains_iff_mem.2 hm; rw [hnl] at this; cases this) (by rw [noBlk_agree hr]; exact hnb) (fun _ ad ha => ?_) (fun i oi ad _ hgi hmi ha => hg.same _ ((hH.obj i oi hgi).low hmi ha) id) fun N' hk hN _ hout => ?_
              · rw [upd_same] at ha; cases ha; exact .inl (Nat.le_of_eq hb)
              · rw [upd_same]
                have hin : ∀ k, (N' k ∧ MB φ H1 k) → MB φ H1 k := fun k h => h.2
                have hd := h5 (fun k => N' k ∧ MB φ H1 k) hin fun j hj oj hgj hmj ad ha hn => hout j hj oj hgj hmj ad ha hn.1
                have hkk : Kept (fun k => N' k ∧ MB φ H1 k) N' w w' := ⟨hk.1, fun k hk' hn => ⟨hg.same k hk' id, fun hn' => (hN k hn').elim (fun hm => hn ⟨hn', hm⟩) fun hle => by omega⟩⟩
                have hB2 : Blk w' b (css.flatten ++ []) e := by rw [List.append_nil]; exact hB
                have hlen63 : len ≤ maxLen := by
                  have h1 : len ≤ len * ty.size := Nat.le_mul_of_pos_right _ hsz
                  unfold maxLen; omega
                refine ⟨css, hd.mono fun _ _ => RepD.kept hkk, ?_, hxl.symm, fun _ => hxl.symm, fun e => (by cases e), fun k hkt ad cs T ha hB' u hu' => ?_⟩
                · rw [hxl]
                  exact own_mk (Nat.zero_le _) hB2 hfl (by rw [List.append_nil]; exact hfl) (Nat.le_refl _) hlen63
                · cases ha
                  have e1 : w'.heap[b]? = some (.cells css.flatten.toArray e (0, 0)) := hB
                  have e2 : w'.heap[b]? = some (.cells cs.toArray T (0, 0)) := hB'
                  rw [e1] at e2
                  simp only [Option.some.injEq, Obj.cells.injEq] at e2
                  have e3 : css.flatten = cs := by simpa using congrArg Array.toList e2.1
                  rw [← e3] at hu'
                  obtain ⟨x0, hx0⟩ := hk1 k hkt
                  have := flat_like hk2 hd0 u hu'
                  rw [hx0] at this; exact this
        · exact h.elim
    · exact h.elim
  · exact h.elim

/-! ### a store into a row -/
theorem own_set {w w' : World} {e : TypeId} {size : Nat} {ad : Addr} {n c k : Nat} {xs ys : List Value} {sp : List Value} (hB : Blk w' ad.block (ys ++ sp) e) (h : w.ownsRow 0 e size (.slice (some ad) n c) k xs) (hl : ys.length = xs.length) (hs : (ys ++ sp).length = c * size) : w'.ownsRow 0 e size (.slice (some ad) n c) k ys := by
  obtain ⟨e1, _, _, _, hm⟩ := own_addr h rfl
  rcases own_open h with ⟨h1, _⟩ | ⟨g, c', sp', h1, _, _, hxl, _, hkc, hcm⟩
  · cases h1
  · cases h1
    exact own_mk (Nat.zero_le _) hB (by rw [hl, hxl]) hs hkc hcm
theorem splice_mid {pre mid post vs : List Value} {o : Nat} (h : o = pre.length) (hl : vs.length = mid.length) : splice (pre ++ (mid ++ post)) o vs = pre ++ (vs ++ post) := by
  subst h
  unfold splice
  rw [List.take_left' rfl, hl, ← List.drop_drop, List.drop_left' rfl, List.drop_left' rfl, List.append_assoc]
theorem flat_three {α : Type} {R : List Value → α → Prop} {n : Nat} (hl : ∀ cs x, R cs x → cs.length = n) {css : List (List Value)} {l : List α} (h : All2 R css l) {i : Nat} {cs : List Value} (hi : css[i]? = some cs) (hc : cs.length = n) :
    css.flatten = css.flatten.take (i * n) ++ (cs ++ css.flatten.drop (i * n + n)) := by
  obtain ⟨x, hx, _⟩ := h.getl hi
  obtain ⟨cs', h1, _, hcut⟩ := flat_get hl h hx
  rw [hi] at h1; cases h1
  conv => lhs; rw [← List.take_append_drop (i * n) css.flatten]
  congr 1
  conv => lhs; rw [← List.take_append_drop n (css.flatten.drop (i * n))]
  rw [hcut, List.drop_drop]
theorem flat_set {α : Type} {R : List Value → α → Prop} {n : Nat} {c' : List Value} (hl : ∀ cs x, R cs x → cs.length = n) {css : List (List Value)} {l : List α} (h : All2 R css l) {i : Nat} {cs : List Value} (hi : css[i]? = some cs) (hc : c'.length = n) :
    (css.set i c').flatten = css.flatten.take (i * n) ++ (c' ++ css.flatten.drop (i * n + n)) := by
  induction css generalizing l i with
  | nil => simp at hi
  | cons c css ih =>
    cases l with
    | nil => cases h
    | cons b l =>
      have hcl := hl _ _ h.1
      cases i with
      | zero => simp [← hcl]
      | succ i =>
        have := ih h.2 (by simpa using hi)
        have e1 : (c ++ css.flatten).drop (c.length + (i * n + n)) = css.flatten.drop (i * n + n) := by rw [← List.drop_drop, List.drop_left' rfl]
        have e2 : (c ++ css.flatten).take (c.length + i * n) = c ++ css.flatten.take (i * n) := by rw [List.take_append, List.take_of_length_le (by omega), Nat.add_sub_cancel_left]
        rw [List.set_cons_succ, List.flatten_cons, this, List.flatten_cons, show (i + 1) * n = c.length + i * n by rw [hcl, Nat.add_mul]; omega, show c.length + i * n + n = c.length + (i * n + n) by omega, e1, e2, List.append_assoc]
theorem storeRow_spec {T : TypeId} {x y : Operand} {r : SR} {j fo i sz : Nat} {t : Ty} {e : TypeId} {l : List t.den} {f : Bool} {ss : List Seg} {vv : VV} (ho : o.op = .store T x y) (ex : evV Ev x = some (.a (.one (.b (.ptr j fo i sz))))) (ey : evV Ev y = some vv) (hss : toSegs vv = some ss) (hg : H.get j = some (.own t e l f))
    (h : PT.Ends (storeRow P T H t e l f j fo i sz lo ss) r) : OpS P Ev H lo o r := by
  unfold storeRow at h
  cases hc : Nat.beq sz t.size && decide ((P.info? T).map (·.size) = some (segsN ss)) && noBlk H (segIds ss) && !(segIds ss).contains j with
  | false => rw [hc] at h; exact h.elim
  | true =>
    rw [hc] at h
    simp only [Bool.and_eq_true, decide_eq_true_eq, Bool.not_eq_true'] at hc
    obtain ⟨⟨⟨hs, hT⟩, hnb⟩, hnj⟩ := hc
    have hs := Nat.eq_of_beq_eq_true hs
    subst hs
    obtain ⟨x0, hx0, h⟩ := h
    obtain ⟨os, u, nx', eo⟩ : ∃ os u nx', openT t x0 lo = (os, u, nx') := ⟨_, _, _, rfl⟩
    simp only [eo] at h
    split at h
    · rename_i os' hos
      split at h
      · rename_i y' hy'
        cases hids : (segIds os').all (fun q => (Hp.get u q).isSome || (segIds ss).contains q) with
        | false => rw [hids] at h; exact h.elim
        | true =>
        rw [hids] at h
        cases h
        have hle : lo ≤ nx' := by have := openT_le t x0 lo; rw [eo] at this; exact this
        refine ⟨hle, fun A φ H1 w E hO hH hr hf => ?_⟩
        obtain ⟨hA, ad, ha, ev⟩ := hO x (by rw [ho]; simp [Op.operands]) _ ex
        have hvs := toSegs_spec hss (hO y (by rw [ho]; simp [Op.operands]) _ ey)
        have hg1 : H1.get j = some (.own t e l f) := by rw [hr j (by simp)]; exact hg
        have hrs : ∀ q ∈ segIds ss, H1.get q = H.get q := fun q hq => hr q (List.mem_cons_of_mem _ hq)
        obtain ⟨css, q1, q2, q3, q4, q5, q6⟩ := hH.obj j _ hg1
        rw [ha] at q2
        obtain ⟨e1, sp, hB, hcl, hcm⟩ := own_addr q2 rfl
        obtain ⟨cs, hcs, hd, hcut⟩ := flat_get (fun _ _ h => RepD.len h) q1 hx0
        have hop := openT_spec (A := A) (φ := φ) (lo := lo) hd (by rw [eo]; exact hf)
        rw [eo] at hop
        obtain ⟨A', φ', hop, hG⟩ := hop
        obtain ⟨hG', hle2⟩ := hG.put (hvs.up hop.agree) hos
        have hcsl : cs.length = t.size := hd.len
        have hil : i < List.length l := (List.getElem?_eq_some_iff.1 hx0).1
        have hfl : css.flatten.length = List.length l * t.size := flat_len (fun _ _ h => RepD.len h) q1
        have hi1 : (i + 1) * t.size ≤ List.length l * t.size := Nat.mul_le_mul_right _ hil
        rw [Nat.add_mul, Nat.one_mul] at hi1
        obtain ⟨vs, hvse⟩ : ∃ vs, (E.ev y).cells.toList = vs := ⟨_, rfl⟩
        rw [hvse] at hvs hG' hle2
        have hsl : (splice cs fo vs).length = t.size := by rw [length_splice' _ _ _ hle2, hcsl]
        have hset := flat_set (c' := splice cs fo vs) (fun _ _ h => RepD.len h) q1 hcs hsl
        have hsplit := flat_three (fun _ _ h => RepD.len h) q1 hcs hcsl
        have hpl : (css.flatten.take (i * t.size)).length = i * t.size := by rw [List.length_take]; omega
        have hst := Stp.opened hH hop
        have hmb : ∀ k, MB φ H1 k → MB φ' (u ++ H1) k := by
          rintro k ⟨q, oq, adq, g1, g2, g3, g4⟩
          have hqA := hH.dom q oq g1
          have hnu : Hp.get u q = none := by
            cases hq : Hp.get u q with
            | none => rfl
            | some o' => obtain ⟨b1, b2, _⟩ := hop.objs q o' hq; exact absurd hqA (hf q b1 b2)
          exact ⟨q, oq, adq, by rw [Hp.get_app, hnu]; exact g1, g2, by rw [(hop.agree q hqA).1]; exact g3, g4⟩
        have hclose : closeT (u ++ H1) t os' = some (y', []) := by
          rw [closeT_agree (H := u ++ H)]
          · exact hy'
          · intro q hq
            rw [Hp.get_app, Hp.get_app]
            have := List.all_eq_true.1 hids q hq
            cases hgu : Hp.get u q with
            | some _ => rfl
            | none =>
              rw [hgu] at this
              simp only [Option.isSome_none, Bool.false_or] at this
              exact hrs q (by simpa using this)
        refine store_run (P := P) (g := ad.block) (off := fo + i * t.size) (vs := vs) ho (by rw [ev, e1, add_mk, Nat.zero_add]) hB hvse (by rw [hvs.len]; exact hT) (by rw [List.length_append, hfl]; omega) hvs.one fun w' hE hz hB' => ?_
        have hx : Ext (MB φ H1) w w' := hE.mono fun k hk => by rw [show k = ad.block from hk]; exact MB.of hg1 rfl ha
        have hblk : splice (css.flatten ++ sp) (fo + i * t.size) vs = (css.set i (splice cs fo vs)).flatten ++ sp := by
          rw [hset]
          conv => lhs; rw [hsplit]
          have hcs3 : cs = cs.take fo ++ ((cs.drop fo).take vs.length ++ cs.drop (fo + vs.length)) := by
            rw [← List.drop_drop, List.take_append_drop, List.take_append_drop]
          have e2 : splice cs fo vs = cs.take fo ++ (vs ++ cs.drop (fo + vs.length)) := by unfold splice; rw [List.append_assoc]
          rw [e2]
          conv => lhs; rw [hcs3]
          have e3 : css.flatten.take (i * t.size) ++ ((cs.take fo ++ ((cs.drop fo).take vs.length ++ cs.drop (fo + vs.length))) ++ css.flatten.drop (i * t.size + t.size)) ++ sp =
              (css.flatten.take (i * t.size) ++ cs.take fo) ++ ((cs.drop fo).take vs.length ++ (cs.drop (fo + vs.length) ++ (css.flatten.drop (i * t.size + t.size) ++ sp))) := by simp only [List.append_assoc]
          rw [e3, splice_mid (by rw [List.length_append, hpl, List.length_take]; omega) (by rw [List.length_take, List.length_drop]; omega)]
          simp only [List.append_assoc]
        rw [hblk] at hB'
        refine ⟨A', φ', trivial, ?_, hop.only⟩
        rw [← freeze_agree hrs]
        have hphj : φ' j = φ j := (hop.agree j hA).1
        refine Stp.layF hH hop.agree (hop.agree j hA).2 hx (fun hm => by have := List.contains_iff_mem.2 hm; rw [hnj] at this; cases this) (by rw [noBlk_agree hrs]; exact hnb) (fun _ ad' ha' => .inr ⟨_, hg1, rfl, hphj⟩) (fun q oq adq hne hgq hmq haq => hE.same _ ((hH.obj q oq hgq).low hmq haq) fun hb => hH.sep q j oq _ adq ad hne hgq hg1 hmq rfl haq ha hb) fun N' hk hN hmk hout => ?_
        rw [hphj]
        have hNj : N' ad.block := hmk rfl ad (by rw [hphj]; exact ha)
        have hd' : RepD (fun k => N' k ∧ MB φ H1 k) w t (splice cs fo vs) y' := by
          obtain ⟨⟨c1, c2, e5, e6, e7⟩, _⟩ := closeT_spec hst.rep (N' := fun k => N' k ∧ MB φ H1 k) (fun k hk => hmb k hk.2) hG' hclose (fun q hq oq hgq hmq adq haq hn => by
            have hq' := List.all_eq_true.1 hids q hq
            rw [Hp.get_app] at hgq
            cases hgu : Hp.get u q with
            | some o' =>
              rw [hgu] at hgq; cases hgq
              obtain ⟨_, _, _, b4, _⟩ := hop.objs q _ hgu
              rw [b4] at hmq; cases hmq
            | none =>
              rw [hgu] at hgq hq'
              simp only [Option.isSome_none, Bool.false_or] at hq'
              have hqs : q ∈ segIds ss := by simpa using hq'
              rw [(hop.agree q (hH.dom q oq hgq)).1] at haq
              exact hout q hqs oq hgq hmq adq haq hn.1)
          have e6' : c2 = [] := e6
          subst e6'
          rw [List.append_nil] at e5
          rw [e5]; exact e7
        have hkk : Kept (fun k => N' k ∧ MB φ H1 k) N' w w' := ⟨hk.1, fun k hk' hn => by
          have hnk : ¬ N' k := fun hn' => (hN k hn').elim (fun hm => hn ⟨hn', hm⟩) fun hle => by omega
          exact ⟨hE.same k hk' fun e => hnk (by rw [show k = ad.block from e]; exact hNj), hnk⟩⟩
        have hall : All2 (fun cs x => RepD N' w' t cs x) (css.set i (splice cs fo vs)) (l.set i y') := (q1.mono fun _ _ => RepD.kept hk).set (hd'.kept hkk)
        refine ⟨css.set i (splice cs fo vs), hall, ?_, by rw [q3, List.length_set], fun hf' => by rw [List.length_set]; exact q4 hf', q5, fun k hkt ad' cs' T' ha' hB2 u' hu' => ?_⟩
        · rw [ha, List.length_set]
          have hlen2 : (css.set i (splice cs fo vs)).flatten.length = css.flatten.length := by rw [flat_len (fun _ _ h => RepD.len h) hall, hfl, List.length_set]
          exact own_set hB' q2 hlen2 (by rw [List.length_append, hlen2, ← List.length_append]; exact hcl)
        · rw [ha] at ha'; cases ha'
          have e8 : w'.heap[ad.block]? = some (.cells ((css.set i (splice cs fo vs)).flatten ++ sp).toArray e (0, 0)) := hB'
          have e9 : w'.heap[ad.block]? = some (.cells cs'.toArray T' (0, 0)) := hB2
          rw [e8] at e9
          simp only [Option.some.injEq, Obj.cells.injEq] at e9
          have e10 : (css.set i (splice cs fo vs)).flatten ++ sp = cs' := by simpa using congrArg Array.toList e9.1
          rw [← e10] at hu'
          rcases List.mem_append.1 hu' with hu' | hu'
          · subst hkt
            have := flat_like (z := .int k 0) (fun k' x h => by cases h; rfl) hall u' hu'
            exact this
          · exact q6 k hkt ad _ e ha hB u' (List.mem_append_right _ hu')
      · exact h.elim
    · exact h.elim
end
end Go.Sat
end
section
namespace Go.Sat
open Go

section
variable {P : Program} {Ev : VEnv} {H : Hp} {lo : Nat} {o : Oper}

/-! ### new rows -/
def zeroInt (P : Program) (e : TypeId) : Option (IntKind × Nat) := match rowT P e with | some (.int k 0, 1, b) => some (k, b) | _ => none
def sameOp : Operand → Operand → Bool
  | .tmp a, .tmp b => Nat.beq a b
  | .const (.int _ a), .const (.int _ b) => decide (a = b)
  | _, _ => false
def makeV (P : Program) (t : TypeId) (nx : Nat) (same : Bool) (l c : Option VV) : PT SR :=
  match P.underlying t, l, c with
  | some (.slice e), some (.a (.one (.b (.int _ l)))), some (.a (.one (.b (.int _ c)))) =>
    (match zeroInt P e with
     | some (k, b) =>
       bif same then .chk (decide (0 ≤ l) && roomFor l.toNat b) (.ret ⟨.b (.row nx), [(nx, .own (.int k) e (List.replicate l.toNat (0 : Int)) true)], [], nx + 1⟩)
       else .chk (decide (0 ≤ l) && decide (l ≤ c) && roomFor c.toNat b) (.ret ⟨.b (.row nx), [(nx, .own (.int k) e (List.replicate l.toNat (0 : Int)) false)], [], nx + 1⟩)
     | none => .fail)
  | _, _, _ => .fail
theorem rep_ints {N : Nat → Prop} {w : World} {k : IntKind} (l : List Int) : All2 (fun cs x => RepD N w (.int k) cs x) (l.map fun x => [Value.int k x]) l ∧ (l.map fun x => [Value.int k x]).flatten = ints k l := by
  induction l with
  | nil => exact ⟨trivial, rfl⟩
  | cons y l ih => exact ⟨⟨rfl, ih.1⟩, by rw [List.map_cons, List.flatten_cons, ih.2]; rfl⟩
theorem tame_ints {w : World} {k : IntKind} {b : Nat} {e : TypeId} {xs : List Int} (hB : Blk w b (ints k xs) e) : Tame w (.int k) (some ⟨b, 0, none⟩) := by
  intro k' hk ad cs T ha hB' u hu
  cases hk; cases ha
  have e1 : w.heap[b]? = some (.cells (ints k xs).toArray e (0, 0)) := hB
  have e2 : w.heap[b]? = some (.cells cs.toArray T (0, 0)) := hB'
  rw [e1] at e2
  simp only [Option.some.injEq, Obj.cells.injEq] at e2
  have e3 : ints k xs = cs := by simpa using congrArg Array.toList e2.1
  rw [← e3] at hu
  obtain ⟨y, _, rfl⟩ := List.mem_map.1 hu
  exact ⟨y, rfl⟩
theorem own_ints {A N : Nat → Prop} {φ : Ph} {w : World} {b C : Nat} {e : TypeId} {k : IntKind} {xs sp : List Int} {full : Bool} (hB : Blk w b (ints k (xs ++ sp)) e) (hC : C = xs.length + sp.length) (hm : C ≤ maxLen) (hf : full = true → sp = []) :
    RepO φ A N w ⟨some ⟨b, 0, none⟩, C, xs.length⟩ (.own (.int k) e xs full) := by
  obtain ⟨h1, h2⟩ := rep_ints (N := N) (w := w) (k := k) xs
  refine ⟨_, h1, ?_, rfl, fun h => by rw [hC, hf h]; rfl, fun e => (by cases e), tame_ints hB⟩
  rw [h2]
  refine own_mk (Nat.zero_le _) (sp := ints k sp) (by rw [← ints_append]; exact hB) (by rw [length_ints]; show xs.length = xs.length * 1; omega) (by rw [← ints_append, length_ints, List.length_append]; show xs.length + sp.length = C * 1; omega) (by show List.length xs ≤ C; omega) hm
theorem makeV_spec {t : TypeId} {l c : Operand} {r : SR} (ho : o.op = .makeSlice t l c) (h : PT.Ends (makeV P t lo (sameOp l c) (evV Ev l) (evV Ev c)) r) : OpS P Ev H lo o r := by
  unfold makeV at h
  split at h
  · rename_i e kl L kc C hu el ec
    split at h
    · rename_i k b hz
      unfold zeroInt at hz
      split at hz
      · rename_i k' b' hrow
        cases hz
        obtain ⟨i, hinf, hzv, hs, hby, _⟩ := rowT_spec hrow
        have key : ∀ (Lz Cz : Int) (full : Bool), 0 ≤ Lz → Lz ≤ Cz → roomFor Cz.toNat b = true → (full = true → Lz = Cz) → (∀ (A : Nat → Prop) (φ : Ph) (E : Env), OR φ A Ev E o → ∃ k1 k2, E.ev l = .int k1 Lz ∧ E.ev c = .int k2 Cz) →
            OpS P Ev H lo o ⟨.b (.row lo), [(lo, .own (.int k) e (List.replicate Lz.toNat (0 : Int)) full)], [], lo + 1⟩ := by
          intro Lz Cz full h0 h1 hroom hfull hE
          obtain ⟨hr1, hr2⟩ := roomFor_spec hroom
          refine ⟨Nat.le_succ _, fun A φ H1 w E hO hH hr hf => does_eq ?_⟩
          obtain ⟨k1, k2, e1, e2⟩ := hE A φ E hO
          have hl : ¬ A lo := hf lo (Nat.le_refl _) (Nat.lt_succ_self _)
          rw [ho]
          refine Does.make (z := .int k 0) (L := Lz.toNat) (C := Cz.toNat) (by_ := b) hu (by simp [hinf, hzv, hs]) (by simp [hinf, hby]) rfl (by rw [e1]; congr 1; omega) (by rw [e2]; congr 1; omega) (by omega) (by rw [Nat.mul_comm]; exact hr1) hr2 fun g w' hb hg hB => ?_
          have hBB : Blk w' g (ints k (List.replicate Lz.toNat 0 ++ List.replicate (Cz.toNat - Lz.toNat) 0)) e := by
            rw [List.replicate_append_replicate, show Lz.toNat + (Cz.toNat - Lz.toNat) = Cz.toNat by omega, ints_replicate]; exact hB
          have hrl : (List.replicate Lz.toNat (0 : Int)).length = Lz.toNat := List.length_replicate
          refine ⟨plus A lo, upd φ lo ⟨some ⟨g, 0, none⟩, Cz.toNat, (List.replicate Lz.toNat (0 : Int)).length⟩, ⟨.inr rfl, by rw [upd_same, hrl], by rw [upd_same, hrl]; show Lz.toNat ≤ Cz.toNat; omega, by rw [upd_same]; exact fun e => by cases e⟩, Stp.new hH hl hg (fun ad ha => by cases ha; exact Nat.le_of_eq hb) (fun N' hk => ?_), fun j hj => hj.imp id fun e => by subst e; exact ⟨Nat.le_refl _, Nat.lt_succ_self _⟩⟩
          refine own_ints (sp := List.replicate (Cz.toNat - Lz.toNat) 0) hBB (by simp; omega) (by unfold maxLen; omega) fun hf => ?_
          have := hfull hf
          rw [show Cz.toNat - Lz.toNat = 0 by omega]; rfl
        have hlm : l ∈ o.op.operands := by rw [ho]; simp [Op.operands]
        have hcm : c ∈ o.op.operands := by rw [ho]; simp [Op.operands]
        cases hsame : sameOp l c with
        | true =>
          rw [hsame] at h
          obtain ⟨hcc, h⟩ := PT.ends_chk.1 h
          cases h
          simp only [Bool.and_eq_true, decide_eq_true_eq] at hcc
          refine key L L true hcc.1 (Int.le_refl _) hcc.2 (fun _ => rfl) fun A φ E hO => ?_
          have e1 : E.ev l = .int kl L := hO l hlm _ el
          refine ⟨kl, kc, e1, ?_⟩
          have e2 : E.ev c = .int kc C := hO c hcm _ ec
          rw [e2]
          have : L = C := by
            unfold sameOp at hsame
            split at hsame
            · have := Nat.eq_of_beq_eq_true hsame; subst this
              rw [el] at ec; cases ec; rfl
            · have := of_decide_eq_true hsame
              subst this
              cases el; cases ec; rfl
            · cases hsame
          rw [this]
        | false =>
          rw [hsame] at h
          obtain ⟨hcc, h⟩ := PT.ends_chk.1 h
          cases h
          simp only [Bool.and_eq_true, decide_eq_true_eq] at hcc
          exact key L C false hcc.1.1 hcc.1.2 hcc.2 (fun e => by cases e) fun A φ E hO => ⟨kl, kc, hO l hlm _ el, hO c hcm _ ec⟩
      · cases hz
    · exact h.elim
  · exact h.elim

/-! ### copies -/
def copyV (P : Program) (dT : TypeId) (H : Hp) (nx : Nat) (x y : Option VV) : PT SR :=
  match P.underlying dT, x, y with
  | some (.slice e), some (.a (.one (.b (.sl j fo i sz len (some n))))), some (.a (.one (.b b))) =>
    (match H.get j with
     | some (.blk T l) => (match arrIn l fo with
       | some (k, ⟨n', a⟩) => (match slCont H (.int k) b with
         | some ys => bif Nat.beq n' n && Nat.beq sz 1 && decide ((P.info? e).map (·.size) = some 1) && !(bvIds b).contains j then
             (match segPut l fo [.arr k n' (Arr.of n' (over a.l i (List.take (Nat.min (List.length ys) len) ys)))] with
              | some l' => .ret ⟨bI (Nat.min (List.length ys) len), [(j, .blk T l')], j :: bvIds b, nx⟩
              | none => .fail) else .fail
         | none => .fail)
       | none => .fail)
     | _ => .fail)
  | some (.slice e), some (.a (.one (.b (.row j)))), some (.a (.one (.b b))) =>
    (match H.get j with
     | some (.own (.int k) e' l f) => (match slCont H (.int k) b with
       | some ys => bif Nat.beq e e' && decide ((P.info? e).map (·.size) = some 1) && !(bvIds b).contains j then
           .ret ⟨bI (Nat.min (List.length ys) (List.length l)), [(j, .own (.int k) e' (over l 0 (List.take (Nat.min (List.length ys) (List.length l)) ys)) f)], j :: bvIds b, nx⟩ else .fail
       | none => .fail)
     | _ => .fail)
  | _, _, _ => .fail
theorem splice_ints' (k : IntKind) (cs : List Int) (o : Nat) (vs : List Int) : splice (ints k cs) o (ints k vs) = ints k (over cs o vs) := by
  unfold splice over
  rw [length_ints, ← ints_take, ← ints_drop, ← ints_append, ← ints_append]
theorem copyV_spec {dT sT : TypeId} {x y : Operand} {r : SR} (ho : o.op = .call { callee := .builtin .copy, args := #[x, y], argTypes := #[dT, sT] }) (h : PT.Ends (copyV P dT H lo (evV Ev x) (evV Ev y)) r) : OpS P Ev H lo o r := by
  have hxm : x ∈ o.op.operands := by rw [ho]; simp [Op.operands, Call.operands]
  have hym : y ∈ o.op.operands := by rw [ho]; simp [Op.operands, Call.operands]
  unfold copyV at h
  split at h
  · rename_i e j fo i sz len n b hu ex ey
    split at h
    · rename_i T l hg
      split at h
      · rename_i k n' a harr
        split at h
        · rename_i ys hys
          cases hc : Nat.beq n' n && Nat.beq sz 1 && decide ((P.info? e).map (·.size) = some 1) && !(bvIds b).contains j with
          | false => rw [hc] at h; exact h.elim
          | true =>
            rw [hc] at h
            simp only [Bool.and_eq_true, decide_eq_true_eq, Bool.not_eq_true'] at hc
            obtain ⟨⟨⟨hn, hs⟩, hsz⟩, hnj⟩ := hc
            have hn := Nat.eq_of_beq_eq_true hn
            have hs := Nat.eq_of_beq_eq_true hs
            subst hn; subst hs
            simp only [cond_true] at h
            split at h
            · rename_i l' hl'
              cases h
              refine ⟨Nat.le_refl _, fun A φ H1 w E hO hH hr hf => does_eq ?_⟩
              obtain ⟨hA, da, dc, ed, d1, d2, d3, d4, d5, d6, d7⟩ := hO x hxm _ ex
              simp only [Option.getD_some] at d5 d6
              obtain ⟨sa, sc, css, es, s1, s2, hcs, hR⟩ := sl_cont (l := ys) hH (hO y hym _ ey) (by rw [slCont_agree fun q hq => hr q (List.mem_cons_of_mem _ hq)]; exact hys)
              rw [flat_ints hcs] at hR
              have hg1 : H1.get j = some (.blk T l) := by rw [hr j (by simp)]; exact hg
              obtain ⟨g, cs, e1, hB, hG⟩ := hH.obj j _ hg1
              unfold arrIn at harr
              split at harr
              · rename_i hd
                cases harr
                obtain ⟨⟨cs', e2, _⟩, hle⟩ := hG.drop hd
                have hcl : fo + n' ≤ cs.length := by
                  have := congrArg List.length e2
                  rw [List.length_drop, List.length_append, length_ints, a.h] at this; omega
                have hm1 : Nat.min (List.length ys) len ≤ len := Nat.min_le_right _ _
                have hm2 : Nat.min (List.length ys) len ≤ List.length ys := Nat.min_le_left _ _
                obtain ⟨m, hm⟩ : ∃ m, Nat.min (List.length ys) len = m := ⟨_, rfl⟩
                rw [hm] at hm1 hm2
                have hl' := hl'
                simp only [hm] at hl' ⊢
                have htl : (List.take m ys).length = m := by rw [List.length_take]; omega
                have hov : (over a.l i (List.take m ys)).length = n' := by rw [over_length (by rw [htl, a.h]; omega), a.h]
                obtain ⟨hG', _⟩ := hG.put (new := [.arr k n' (Arr.of n' (over a.l i (List.take m ys)))]) (ns := ints k (over a.l i (List.take m ys))) ⟨[], by rw [Arr.of_l hov, List.append_nil], rfl⟩ hl'
                rw [ho]
                refine Does.copy (e := e) (cs := ints k (List.take m ys)) (g := g) (off := fo + i) hu hsz ed es hB (by rw [length_ints, htl, ← hm]) (fun hp => ?_) ?_ (by rw [length_ints, htl]; omega) (one_ints _ _) fun w' hE hz hB' => ?_
                · rw [length_ints, htl] at hp
                  obtain ⟨ad0, q1, q2⟩ := d4 (by omega)
                  rw [e1] at q1; cases q1
                  rw [q2, add_mk]; simp
                · rw [ints_take]; exact hR.take m
                · have hx : Ext (MB φ H1) w w' := hE.mono fun q hq => by rw [show q = g from hq]; exact MB.of hg1 rfl e1
                  have hsp : splice cs (fo + i) (ints k (List.take m ys)) = splice cs fo (ints k (over a.l i (List.take m ys))) := by
                    have hal : (ints k a.l).length = n' := by rw [length_ints, a.h]
                    have e6 : cs = cs.take fo ++ (ints k a.l ++ cs') := by rw [← e2, List.take_append_drop]
                    have htf : (cs.take fo).length = fo := by rw [List.length_take]; omega
                    have r1 : splice cs fo (ints k (over a.l i (List.take m ys))) = cs.take fo ++ (ints k (over a.l i (List.take m ys)) ++ cs') := by
                      conv => lhs; rw [e6]
                      rw [splice_mid htf.symm (by rw [length_ints, hov, hal])]
                    rw [r1]
                    conv => lhs; rw [e6]
                    have e7 : ints k a.l = ints k (a.l.take i) ++ (ints k ((a.l.drop i).take m) ++ ints k (a.l.drop (i + m))) := by
                      rw [← ints_append, ← ints_append, ← List.drop_drop, List.take_append_drop, List.take_append_drop]
                    rw [e7]
                    have e8 : cs.take fo ++ ((ints k (a.l.take i) ++ (ints k ((a.l.drop i).take m) ++ ints k (a.l.drop (i + m)))) ++ cs') = (cs.take fo ++ ints k (a.l.take i)) ++ (ints k ((a.l.drop i).take m) ++ (ints k (a.l.drop (i + m)) ++ cs')) := by simp only [List.append_assoc]
                    rw [e8, splice_mid (by rw [List.length_append, htf, length_ints, List.length_take, a.h]; omega) (by rw [length_ints, length_ints, htl, List.length_take, List.length_drop, a.h]; omega)]
                    unfold over
                    rw [ints_append, ints_append, htl]
                    simp only [List.append_assoc]
                  rw [hsp] at hB'
                  refine ⟨A, φ, ?_, Stp.turn hH hg1 rfl (fun q hq hne => hE.same q hq (hne _ e1)) hx (fun N' hk => ⟨g, _, e1, hB', hG'⟩), fun _ h => .inl h⟩
                  show Value.int .i64 _ = _
                  rw [length_ints, htl]
              · cases harr
            · exact h.elim
        · exact h.elim
      · exact h.elim
    · exact h.elim
  · rename_i e j b hu ex ey
    split at h
    · rename_i k e' l f hg
      split at h
      · rename_i ys hys
        cases hc : Nat.beq e e' && decide ((P.info? e).map (·.size) = some 1) && !(bvIds b).contains j with
        | false => rw [hc] at h; exact h.elim
        | true =>
          rw [hc] at h
          simp only [Bool.and_eq_true, decide_eq_true_eq, Bool.not_eq_true'] at hc
          obtain ⟨⟨hee, hsz⟩, hnj⟩ := hc
          have hee := Nat.eq_of_beq_eq_true hee
          subst hee
          cases h
          refine ⟨Nat.le_refl _, fun A φ H1 w E hO hH hr hf => does_eq ?_⟩
          obtain ⟨hA, ed, d1, d2⟩ := hO x hxm _ ex
          obtain ⟨sa, sc, css, es, s1, s2, hcs, hR⟩ := sl_cont (l := ys) hH (hO y hym _ ey) (by rw [slCont_agree fun q hq => hr q (List.mem_cons_of_mem _ hq)]; exact hys)
          rw [flat_ints hcs] at hR
          have hg1 : H1.get j = some (.own (.int k) e l f) := by rw [hr j (by simp)]; exact hg
          obtain ⟨dss, q1, q2, q3, q4, q5, q6⟩ := hH.obj j _ hg1
          rw [flat_ints q1] at q2
          rw [q3] at ed d1
          obtain ⟨m, hm⟩ : ∃ m, Nat.min (List.length ys) (List.length l) = m := ⟨_, rfl⟩
          have hm1 : m ≤ List.length l := by rw [← hm]; exact Nat.min_le_right _ _
          have hm2 : m ≤ List.length ys := by rw [← hm]; exact Nat.min_le_left _ _
          have htl : (List.take m ys).length = m := by rw [List.length_take]; omega
          simp only [hm]
          rw [ho]
          cases ha : (φ j).addr with
          | none =>
            -- nothing is copied
            have hcap := d2 ha
            rw [ha] at ed
            have hl0 : List.length l = 0 := by omega
            have hm0 : m = 0 := by omega
            subst hm0
            have hrun : (Builtin.copy_ #[dT, sT] o.type #[.slice none (List.length l) (φ j).cap, .slice sa (List.length ys) sc]).run P w = .ok (.int .i64 0) w := by
              cases hinf : P.info? e with
              | none => simp [hinf] at hsz
              | some inf =>
                have hz1 : (sizeOf e).run P w = .ok inf.size w := by simp [sizeOf, typeInfo, program, Sem.run, hinf]
                have hmin : (List.length ys).min (List.length l) = 0 := hm
                have hz2 : (Builtin.firstCells inf.size 0 (.slice sa (List.length ys) sc)).run P w = .ok #[] w := by
                  cases sa <;> simp [Builtin.firstCells, loadCells, loadCellsFrom]
                have hz3 : (Builtin.lenOf (.slice sa (List.length ys) sc)).run P w = .ok (List.length ys) w := rfl
                unfold Builtin.copy_
                simp [run_underlying hu, hz1, hz2, hz3, hmin, goInt]
            refine Does.value (v := .int .i64 0) (w' := w) ?_ ⟨A, φ, rfl, ?_, fun _ h => .inl h⟩
            · simp only [execOp, mkO, resolve, Sem.run_bind, Sem.run_pure, Result.andThen_ok, invoke, builtin, List.map_toArray, List.map_cons, List.map_nil, ed, es, hrun]
            · refine Stp.turn hH hg1 rfl (fun _ _ _ => rfl) (Ext.refl _ _) fun N' hk => ?_
              have : over l 0 (List.take 0 ys) = l := by simp [over]
              rw [this]
              exact (hH.obj j _ hg1).kept (.refl _ _) hk fun _ _ _ => rfl
          | some ad =>
            rw [ha] at q2 ed
            obtain ⟨e1, sp, hB, hcl, hcm⟩ := own_addr q2 rfl
            refine Does.copy (e := e) (cs := ints k (List.take m ys)) (g := ad.block) (off := 0) hu hsz ed es hB (by rw [length_ints, htl, ← hm]) (fun hp => by rw [e1]) ?_ (by rw [length_ints, htl, List.length_append, length_ints]; omega) (one_ints _ _) fun w' hE hz hB' => ?_
            · rw [ints_take]; exact hR.take m
            · have hx : Ext (MB φ H1) w w' := hE.mono fun q hq => by rw [show q = ad.block from hq]; exact MB.of hg1 rfl ha
              have hovl : (over l 0 (List.take m ys)).length = List.length l := over_length (by rw [htl]; omega)
              have hsp : splice (ints k l ++ sp) 0 (ints k (List.take m ys)) = ints k (over l 0 (List.take m ys)) ++ sp := by
                rw [← splice_ints']
                unfold splice
                rw [length_ints, htl, List.take_zero, List.take_zero, List.nil_append, List.drop_append_of_le_length (by rw [length_ints]; omega), List.append_assoc]
              rw [hsp] at hB'
              refine ⟨A, φ, ?_, Stp.turn hH hg1 rfl (fun q hq hne => hE.same q hq (hne _ ha)) hx (fun N' hk => ?_), fun _ h => .inl h⟩
              · show Value.int .i64 _ = _
                rw [length_ints, htl]
              · obtain ⟨h1, h2⟩ := rep_ints (N := N') (w := w') (k := k) (over l 0 (List.take m ys))
                refine ⟨_, h1, ?_, by rw [q3]; exact hovl.symm, fun hf => (q4 hf).trans hovl.symm, q5, fun k' hk' ad' cs' T' ha' hB2 u hu' => ?_⟩
                · rw [h2, ha, hovl]
                  exact own_set hB' q2 (by rw [length_ints, length_ints, hovl]) (by rw [List.length_append, length_ints, hovl, ← length_ints k l, ← List.length_append]; exact hcl)
                · cases hk'
                  rw [ha] at ha'; cases ha'
                  have e8 : w'.heap[ad.block]? = some (.cells (ints k (over l 0 (List.take m ys)) ++ sp).toArray e (0, 0)) := hB'
                  have e9 : w'.heap[ad.block]? = some (.cells cs'.toArray T' (0, 0)) := hB2
                  rw [e8] at e9
                  simp only [Option.some.injEq, Obj.cells.injEq] at e9
                  have e10 : ints k (over l 0 (List.take m ys)) ++ sp = cs' := by simpa using congrArg Array.toList e9.1
                  rw [← e10] at hu'
                  rcases List.mem_append.1 hu' with hu' | hu'
                  · obtain ⟨y', _, rfl⟩ := List.mem_map.1 hu'; exact ⟨y', rfl⟩
                  · exact q6 k rfl ad _ e ha hB u (List.mem_append_right _ hu')
      · exact h.elim
    · exact h.elim
  · exact h.elim
end
end Go.Sat
end
section
namespace Go.Sat
open Go

inductive CK
  | fn (f : FuncId) | yld (j : Nat)
abbrev Caller := CK → List VV → Hp → Nat → PT SR
/-- what calls do -/
def GoodF (P : Program) (G : Caller) : Prop := ∀ f args H nx r, PT.Ends (G (.fn f) args H nx) r → nx ≤ r.nx ∧ ∀ (A : Nat → Prop) (φ : Ph) (H1 : Hp) (w : World) (vals : List Value), All2 (fun x v => RelV φ A x v) args vals → RepH A φ H1 w → (∀ j ∈ r.rd, H1.get j = H.get j) → Fresh A nx r.nx →
  Ret P f vals.toArray w (fun v w' => ∃ A' φ', RelV φ' A' r.v v ∧ Stp A φ H1 w A' φ' (r.u ++ H1) w' ∧ ∀ j, A' j → A j ∨ (nx ≤ j ∧ j < r.nx))
section
variable {P : Program} {G : Caller} {Ev : VEnv} {H : Hp} {lo : Nat} {o : Oper}

theorem storeV_spec {T : TypeId} {x y : Operand} {r : SR} (ho : o.op = .store T x y) (h : PT.Ends (storeV P T H lo (evV Ev x) (evV Ev y)) r) : OpS P Ev H lo o r := by
  unfold storeV at h
  split at h
  · rename_i j fo i sz vv ex ey
    split at h
    · rename_i ss T0 l hss hg
      exact storeBlk_spec ho ex ey hss hg h
    · rename_i ss t e l f hss hg
      exact storeRow_spec ho ex ey hss hg h
    · exact h.elim
  · exact h.elim

def okCall (P : Program) (f : FuncId) : Bool := match P.funcs[f]? with | some fn => !(fn.name == "runtime.NumGoroutine") && fn.body.isSome | none => false
theorem callFunc_ok {f : FuncId} {args : Array Value} (h : okCall P f = true) : pureRun P (callFunc f args) = some (.enter f args) := by
  unfold okCall at h
  split at h
  · rename_i fn hf
    simp only [Bool.and_eq_true, Bool.not_eq_true'] at h
    have h2 : fn.body.isNone = false := by cases hb : fn.body <;> simp_all
    unfold callFunc
    simp only [program, bind, Sem.bind, pureRun, hf, h.1, h2, Bool.false_eq_true, if_false]
    rfl
  · cases h
def allSome : List (Option VV) → Option (List VV)
  | [] => some []
  | some v :: r => (match allSome r with | some l => some (v :: l) | none => none)
  | none :: _ => none
theorem allSome_spec {A : Nat → Prop} {φ : Ph} {E : Env} : ∀ {xs : List Operand} {l : List VV}, allSome (xs.map (evV Ev)) = some l → (∀ x ∈ xs, ∀ vv, evV Ev x = some vv → RelV φ A vv (E.ev x)) → All2 (fun x v => RelV φ A x v) l (xs.map E.ev) := by
  intro xs
  induction xs with
  | nil => intro l h _; cases h; trivial
  | cons x xs ih =>
    intro l h hr
    rw [List.map_cons] at h
    unfold allSome at h
    split at h
    · rename_i e; cases e
    · rename_i v r e
      simp only [List.cons.injEq] at e
      obtain ⟨e1, e2⟩ := e
      subst e2
      split at h
      · rename_i l' hl'
        cases h
        exact ⟨hr x (List.mem_cons_self ..) _ e1, ih hl' fun y hy => hr y (List.mem_cons_of_mem _ hy)⟩
      · cases h
    · cases h
theorem All2.map_b {A : Nat → Prop} {φ : Ph} {l : List BV} {vs : List Value} (h : All2 (fun x v => RelB φ A x v) l vs) : All2 (fun x v => RelV φ A x v) (l.map VV.b) vs := by
  induction l generalizing vs with
  | nil => cases vs with
    | nil => trivial
    | cons _ _ => cases h
  | cons x l ih => cases vs with
    | nil => cases h
    | cons v vs => exact ⟨h.1, ih h.2⟩
def callV (P : Program) (G : Caller) (H : Hp) (nx : Nat) (f : Option VV) (xs : List (Option VV)) : PT SR :=
  match f, allSome xs with
  | some (.a (.one (.fn (.func g) fs cs))), some vs => bif okCall P g then G (.fn g) (fs.map VV.b ++ (vs ++ cs.map VV.b)) H nx else .fail
  | _, _ => .fail
theorem callV_spec (hG : GoodF P G) {c : Call} {x : Operand} {r : SR} (ho : o.op = .call c) (hc : c.callee = .value x) (h : PT.Ends (callV P G H lo (evV Ev x) (c.args.toList.map (evV Ev))) r) : OpS P Ev H lo o r := by
  have hops : ∀ y, y = x ∨ y ∈ c.args.toList → y ∈ o.op.operands := by
    intro y hy
    rw [ho]
    show y ∈ c.operands
    unfold Call.operands
    rw [hc]
    rcases hy with rfl | hy
    · exact Array.mem_append.2 (.inl (by simp))
    · exact Array.mem_append.2 (.inr (Array.mem_toList_iff.1 hy))
  unfold callV at h
  split at h
  · rename_i g fs cs vs ex hvs
    cases hk : okCall P g with
    | false => rw [hk] at h; exact h.elim
    | true =>
      rw [hk] at h
      obtain ⟨hle, hgood⟩ := hG _ _ _ _ _ h
      refine ⟨hle, fun A φ H1 w E hO hH hr hf => ?_⟩
      obtain ⟨us, ws, e1, h1, h2⟩ := hO x (hops x (.inl rfl)) _ ex
      have h3 := allSome_spec (E := E) (A := A) (φ := φ) hvs fun y hy => hO y (hops y (.inr hy))
      have hargs := (All2.map_b h1).app (h3.app (All2.map_b h2))
      have := hgood A φ H1 w _ hargs hH hr hf
      have harr : us.toArray ++ c.args.map E.ev ++ ws.toArray = (us ++ (c.args.toList.map E.ev ++ ws)).toArray := by
        apply Array.ext'; simp
      have hrun : pureRun P (execOp E.ev o) = some (.enter g (us ++ (c.args.toList.map E.ev ++ ws)).toArray) := by
        rw [← harr, ← callFunc_ok hk]
        unfold execOp; rw [ho]
        simp only [resolve, hc, e1, Deferred.ofValue, invoke]
        rfl
      refine does_eq (Does.call hrun this)
  · exact h.elim

/-- the capacity of nil -/
def capV (P : Program) (t : TypeId) (H : Hp) (nx : Nat) (x : Option VV) : PT SR :=
  match P.underlying t, x with
  | some (.slice _), some (.a (.one (.b .nilsl))) => Q (bI 0) [] nx
  | some (.slice _), some (.a (.one (.b (.row j)))) => (match rowFull H j with | some n => Q (.int .i64 (n : Int)) [j] nx | none => .fail)
  | some (.slice _), some (.a (.one (.b (.sl j 0 i _ _ none)))) => (match rowFull H j with | some n => Q (.int .i64 ((n : Int) - (i : Int))) [j] nx | none => .fail)
  | _, _ => .fail
theorem capV_spec {t : TypeId} {x : Operand} {r : SR} (ho : o.op = .call { callee := .builtin .cap, args := #[x], argTypes := #[t] }) (h : PT.Ends (capV P t H lo (evV Ev x)) r) : OpS P Ev H lo o r := by
  unfold capV at h
  split at h
  · rename_i e hu ex
    cases h
    refine OpS.quiet fun A φ H1 w E hO hH hr => ⟨.int .i64 0, ?_, rfl⟩
    have hx : E.ev x = .slice none 0 0 := hO x (by rw [ho]; simp [Op.operands, Call.operands]) _ ex
    unfold execOp; rw [ho]
    simp [resolve, invoke, builtin, hx, Builtin.cap_, run_underlying hu, goInt]
  · rename_i e j hu ex
    split at h
    · rename_i n hn
      cases h
      refine OpS.quiet fun A φ H1 w E hO hH hr => ⟨.int .i64 (n : Int), ?_, rfl⟩
      obtain ⟨hA, e1, _⟩ := hO x (by rw [ho]; simp [Op.operands, Call.operands]) _ ex
      obtain ⟨_, f2, _⟩ := rowFull_spec hH (by rw [rowFull_agree (hr j (by simp))]; exact hn)
      rw [f2] at e1
      unfold execOp; rw [ho]
      simp [resolve, invoke, builtin, e1, Builtin.cap_, run_underlying hu, goInt]
    · exact h.elim
  · rename_i e j i sz len hu ex
    split at h
    · rename_i n hn
      cases h
      refine OpS.quiet fun A φ H1 w E hO hH hr => ⟨.int .i64 ((n : Int) - (i : Int)), ?_, rfl⟩
      obtain ⟨hA, a, cp, e1, k1, k2, k3, k4, k5, _⟩ := hO x (by rw [ho]; simp [Op.operands, Call.operands]) _ ex
      obtain ⟨_, f2, _⟩ := rowFull_spec hH (by rw [rowFull_agree (hr j (by simp))]; exact hn)
      have k5' : i + cp = n := by simpa [f2] using k5
      have hcp : ((cp : Nat) : Int) = (n : Int) - (i : Int) := by omega
      unfold execOp; rw [ho]
      simp [resolve, invoke, builtin, e1, Builtin.cap_, run_underlying hu, goInt, hcp]
    · exact h.elim
  · exact h.elim
/-- n zeros, appended to nil -/
def appZV (P : Program) (t0 t1 : TypeId) (nx : Nat) (x y : Option VV) : PT SR :=
  match P.underlying t0, P.underlying t1, x, y with
  | some (.slice e), some (.int _), some (.a (.one (.b .nilsl))), some (.a (.one (.b (.int _ n)))) =>
    (match zeroInt P e with
     | some (k, b) => .chk (decide (0 < n) && roomFor n.toNat b) (.ret ⟨.b (.row nx), [(nx, .own (.int k) e (List.replicate n.toNat (0 : Int)) false)], [], nx + 1⟩)
     | none => .fail)
  | _, _, _, _ => .fail
theorem zeroCells_int (k : IntKind) (n : Nat) : (Builtin.zeroCells (Value.int k 0).cells n).toList = ints k (List.replicate n 0) := by
  have hc : (Value.int k 0).cells = #[.int k 0] := rfl
  rw [hc]
  unfold Builtin.zeroCells
  apply List.ext_getElem
  · simp [ints]
  · intro i h1 h2
    simp [ints, Nat.mod_one]
theorem appZV_spec {t0 t1 : TypeId} {x y : Operand} {r : SR} (ho : o.op = .call { callee := .builtin .append, args := #[x, y], argTypes := #[t0, t1] }) (h : PT.Ends (appZV P t0 t1 lo (evV Ev x) (evV Ev y)) r) : OpS P Ev H lo o r := by
  have hxm : x ∈ o.op.operands := by rw [ho]; simp [Op.operands, Call.operands]
  have hym : y ∈ o.op.operands := by rw [ho]; simp [Op.operands, Call.operands]
  unfold appZV at h
  split at h
  · rename_i e kn kk n hu hu1 ex ey
    split at h
    · rename_i k b hz
      unfold zeroInt at hz
      split at hz
      · rename_i k' b' hrow
        cases hz
        obtain ⟨i, hinf, hzv, hs, hby, _⟩ := rowT_spec hrow
        obtain ⟨hcc, h⟩ := PT.ends_chk.1 h
        cases h
        simp only [Bool.and_eq_true, decide_eq_true_eq] at hcc
        obtain ⟨h0, hroom⟩ := hcc
        obtain ⟨m, rfl⟩ : ∃ m : Nat, n = (m : Int) := ⟨n.toNat, by omega⟩
        simp only [Int.toNat_natCast] at hroom ⊢
        obtain ⟨hr1, hr2⟩ := roomFor_spec hroom
        refine ⟨Nat.le_succ _, fun A φ H1 w E hO hH hr hf => ?_⟩
        have hx : E.ev x = .slice none 0 0 := hO x hxm _ ex
        have hy : E.ev y = .int kk (m : Int) := hO y hym _ ey
        have hl : ¬ A lo := hf lo (Nat.le_refl _) (Nat.lt_succ_self _)
        have hrun := Go.Lib.run_append_nil_zeros (P := P) w t0 t1 o.type e i (.int k 0) kk kn hu hu1 hinf hzv m (by omega) (by omega) (by omega) (by rw [hby]; omega)
        have hc1 := grownCap_ge w m 0 e
        have hc2 := grownCap_le_maxLen w m 0 e (by unfold maxLen; omega)
        generalize hcap : grownCap w m 0 e = cap at *
        generalize hcs : Builtin.zeroCells (Value.int k 0).cells m ++ Builtin.zeroCells (Value.int k 0).cells (cap - m) = cs at *
        have hcl : cs.toList = ints k (List.replicate m 0 ++ List.replicate (cap - m) 0) := by
          rw [← hcs, Array.toList_append, zeroCells_int, zeroCells_int, ints_append]
        have hG : Grow w (w.drew.alloc (.cells cs e)) := Ext.trans (Grow.drawn w (w.drawn + 1)) (Grow.push w.drew (.cells cs e))
        have hB : Blk (w.drew.alloc (.cells cs e)) w.heap.size (ints k (List.replicate m 0 ++ List.replicate (cap - m) 0)) e := by
          rw [← hcl]
          show (w.heap.push (.cells cs e))[w.heap.size]? = some (.cells cs.toList.toArray e (0, 0))
          simp
        have hrl : (List.replicate m (0 : Int)).length = m := List.length_replicate
        refine Does.value (v := .slice (some ⟨w.heap.size, 0, none⟩) m cap) (w' := w.drew.alloc (.cells cs e)) ?_ ⟨plus A lo, upd φ lo ⟨some ⟨w.heap.size, 0, none⟩, cap, (List.replicate m (0 : Int)).length⟩, ⟨.inr rfl, by rw [upd_same, hrl], by rw [upd_same, hrl]; exact hc1, by rw [upd_same]; exact fun e => by cases e⟩, Stp.new hH hl hG (fun ad ha => by cases ha; exact Nat.le_refl _) (fun N' hk => ?_), fun j hj => hj.imp id fun e => by subst e; exact ⟨Nat.le_refl _, Nat.lt_succ_self _⟩⟩
        · unfold execOp; rw [ho]
          simp [resolve, invoke, builtin, hx, hy, hrun]
        · exact own_ints (sp := List.replicate (cap - m) 0) hB (by simp; omega) hc2 fun hf => by cases hf
      · cases hz
    · exact h.elim
  · exact h.elim
def builtinV (P : Program) (H : Hp) (nx : Nat) (b : Builtin) (ts : List TypeId) (xs : List (Option VV)) : PT SR :=
  match b, ts, xs with
  | .len, [t], [x] => lenV P t H nx x
  | .cap, [t], [x] => capV P t H nx x
  | .append, [t0, t1], [x, y] => bif Nat.beq t1 t0 then (match P.underlying t0 with | some (.slice e) => (match tyOf P 10 e with | some tn => appV P t0 H nx tn x y | none => .fail) | _ => .fail) else appZV P t0 t1 nx x y
  | .copy, [dT, _], [x, y] => copyV P dT H nx x y
  | _, _, _ => .fail
theorem call_eta {c : Call} {b : Builtin} {xs : List Operand} {ts : List TypeId} (hc : c.callee = .builtin b) (hx : c.args.toList = xs) (ht : c.argTypes.toList = ts) : c = { callee := .builtin b, args := xs.toArray, argTypes := ts.toArray } := by
  obtain ⟨ca, ar, at_⟩ := c
  simp only at hc hx ht
  subst hc; subst hx; subst ht
  rfl
theorem builtinV_spec {c : Call} {b : Builtin} {r : SR} (ho : o.op = .call c) (hc : c.callee = .builtin b) (h : PT.Ends (builtinV P H lo b c.argTypes.toList (c.args.toList.map (evV Ev))) r) : OpS P Ev H lo o r := by
  unfold builtinV at h
  split at h
  · rename_i t x' ht hx
    obtain ⟨x, hx1, rfl⟩ : ∃ x, c.args.toList = [x] ∧ evV Ev x = x' := by
      cases hl : c.args.toList with
      | nil => rw [hl] at hx; cases hx
      | cons x r => rw [hl] at hx; cases r with
        | nil => exact ⟨x, rfl, by simpa using hx⟩
        | cons _ _ => cases hx
    exact lenV_spec (by rw [ho, call_eta hc hx1 ht]) h
  · rename_i t x' ht hx
    obtain ⟨x, hx1, rfl⟩ : ∃ x, c.args.toList = [x] ∧ evV Ev x = x' := by
      cases hl : c.args.toList with
      | nil => rw [hl] at hx; cases hx
      | cons x r => rw [hl] at hx; cases r with
        | nil => exact ⟨x, rfl, by simpa using hx⟩
        | cons _ _ => cases hx
    exact capV_spec (by rw [ho, call_eta hc hx1 ht]) h
  · rename_i t0 t1 x' y' ht hx
    obtain ⟨x, y, hx1, rfl, rfl⟩ : ∃ x y, c.args.toList = [x, y] ∧ evV Ev x = x' ∧ evV Ev y = y' := by
      cases hl : c.args.toList with
      | nil => rw [hl] at hx; cases hx
      | cons x r => rw [hl] at hx; cases r with
        | nil => cases hx
        | cons y r => cases r with
          | nil =>
            simp only [List.map_cons, List.map_nil, List.cons.injEq, and_true] at hx
            exact ⟨x, y, rfl, hx.1, hx.2⟩
          | cons _ _ => cases hx
    cases hb : Nat.beq t1 t0 with
    | false => rw [hb] at h; exact appZV_spec (by rw [ho, call_eta hc hx1 ht]) h
    | true =>
      rw [hb] at h
      have hb := Nat.eq_of_beq_eq_true hb
      subst hb
      simp only [cond_true] at h
      split at h
      · split at h
        · exact appV_spec (by rw [ho, call_eta hc hx1 ht]) h
        · exact h.elim
      · exact h.elim
  · rename_i dT sT x' y' ht hx
    obtain ⟨x, y, hx1, rfl, rfl⟩ : ∃ x y, c.args.toList = [x, y] ∧ evV Ev x = x' ∧ evV Ev y = y' := by
      cases hl : c.args.toList with
      | nil => rw [hl] at hx; cases hx
      | cons x r => rw [hl] at hx; cases r with
        | nil => cases hx
        | cons y r => cases r with
          | nil =>
            simp only [List.map_cons, List.map_nil, List.cons.injEq, and_true] at hx
            exact ⟨x, y, rfl, hx.1, hx.2⟩
          | cons _ _ => cases hx
    exact copyV_spec (by rw [ho, call_eta hc hx1 ht]) h
  · exact h.elim

def isArrT (P : Program) (T : TypeId) : Bool := match P.underlying T with | some (.array _ _) => true | _ => false
def loadSel (P : Program) (T : TypeId) (H : Hp) (nx : Nat) (x : Option VV) : PT SR :=
  match x with
  | some (.a (.one (.b (.ptr j fo i 1)))) => bif isArrT P T then loadArr P T H nx (some (.a (.one (.b (.ptr j fo i 1))))) else loadV P T H nx (some (.a (.one (.b (.ptr j fo i 1)))))
  | x => loadV P T H nx x
def binSel (P : Program) (op : BinOp) (t : TypeId) (H : Hp) (nx : Nat) (x y : Option VV) : PT SR :=
  match x with
  | some (.a (.agg l)) => eqAggV P op t nx (some (.a (.agg l))) y
  | x => binV P op t H nx x y
def convSel (P : Program) (s d : TypeId) (H : Hp) (nx : Nat) (x : Option VV) : PT SR :=
  match x with
  | some (.a (.one (.b (.int k n)))) => convV P s d nx (some (.a (.one (.b (.int k n)))))
  | some (.a (.one (.b (.str z)))) => convV P s d nx (some (.a (.one (.b (.str z)))))
  | x => toStrV P s d H nx x
/-- **One operation.** -/
def stepV (P : Program) (G : Caller) (Ev : VEnv) (H : Hp) (nx : Nat) (o : Oper) : PT SR :=
  match o.op with
  | .move x => moveV nx (evV Ev x)
  | .assign x => moveV nx (evV Ev x)
  | .pick c a b => pickV nx (evV Ev c) (evV Ev a) (evV Ev b)
  | .alloc T => allocV P T nx
  | .box T x => boxV T nx (evV Ev x)
  | .build t ps => buildV P t nx (evParts Ev ps)
  | .buildSlice t len ps => bsV P t len H nx (evParts Ev ps)
  | .load T x => loadSel P T H nx (evV Ev x)
  | .store T x y => storeV P T H nx (evV Ev x) (evV Ev y)
  | .nilCheck x => nilCheckV nx (evV Ev x)
  | .binOp op t x y _ => binSel P op t H nx (evV Ev x) (evV Ev y)
  | .unOp op _ x => unV op nx (evV Ev x)
  | .convert s d x => convSel P s d H nx (evV Ev x)
  | .sliceToArrayPointer t x => toArrV P t H nx (evV Ev x)
  | .makeFunc f fs cs => funcV f nx (fs.toList.map (evV Ev)) (cs.toList.map (evV Ev))
  | .makeSlice t l c => makeV P t nx (sameOp l c) (evV Ev l) (evV Ev c)
  | .slice t x l h none => sliceSel P t H nx (evV Ev x) (optV Ev l) (optV Ev h)
  | .fieldAddr t x f => fieldAddrV P t f nx (evV Ev x)
  | .field t x f => fieldV P t f nx (evV Ev x)
  | .indexAddr t x i => indexAddrV P t H nx (evV Ev x) (evV Ev i)
  | .index t x i => indexV P t nx (evV Ev x) (evV Ev i)
  | .extract x i => extractV nx i (evV Ev x)
  | .call c => (match c.callee with
    | .value f => callV P G H nx (evV Ev f) (c.args.toList.map (evV Ev))
    | .builtin b => builtinV P H nx b c.argTypes.toList (c.args.toList.map (evV Ev))
    | .invoke _ _ => .fail)
  | _ => .fail
theorem stepV_spec (hG : GoodF P G) {r : SR} (h : PT.Ends (stepV P G Ev H lo o) r) : OpS P Ev H lo o r := by
  unfold stepV at h
  split at h
  · rename_i ho; exact moveV_spec (.inl ho) h
  · rename_i ho; exact moveV_spec (.inr ho) h
  · rename_i ho; exact pickV_spec ho h
  · rename_i ho; exact allocV_spec ho h
  · rename_i ho; exact boxV_spec ho h
  · rename_i ho; exact buildV_spec ho h
  · rename_i ho; exact bsV_spec ho h
  · rename_i T x ho
    unfold loadSel at h
    split at h
    · rename_i ex
      cases hb : isArrT P T with
      | true => rw [hb] at h; rw [← ex] at h; exact loadArr_spec ho h
      | false => rw [hb] at h; rw [← ex] at h; exact loadV_spec ho h
    · exact loadV_spec ho h
  · rename_i ho; exact storeV_spec ho h
  · rename_i ho; exact nilCheckV_spec ho h
  · rename_i ho
    unfold binSel at h
    split at h
    · rename_i ex; rw [← ex] at h; exact eqAggV_spec ho h
    · exact binV_spec ho h
  · rename_i ho; exact unV_spec ho h
  · rename_i ho
    unfold convSel at h
    split at h
    · rename_i ex; rw [← ex] at h; exact convV_spec ho h
    · rename_i ex; rw [← ex] at h; exact convV_spec ho h
    · exact toStrV_spec ho h
  · rename_i ho; exact toArrV_spec ho h
  · rename_i ho; exact funcV_spec ho h
  · rename_i ho; exact makeV_spec ho h
  · rename_i ho; exact sliceSel_spec ho h
  · rename_i ho; exact fieldAddrV_spec ho h
  · rename_i ho; exact fieldV_spec ho h
  · rename_i ho; exact indexAddrV_spec ho h
  · rename_i ho; exact indexV_spec ho h
  · rename_i ho; exact extractV_spec ho h
  · rename_i ho
    split at h
    · rename_i hc; exact callV_spec hG ho hc h
    · rename_i hc; exact builtinV_spec ho hc h
    · exact h.elim
  · exact h.elim
end
end Go.Sat
end
