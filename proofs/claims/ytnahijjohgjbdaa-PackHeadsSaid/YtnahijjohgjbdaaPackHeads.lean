/-
  The law PackHeads: it answers true whatever the input, and writes nothing that was there. No condition.
-/
import Derived.Test.YtnahijjohgjbdaaM5
import Derived.Test.YtnahijjohgjbdaaRows
import Derived.WalkKit
import Derived.ProofKit
import Derived.OpenShut
import Derived.ShutString
import Derived.ChangeOld
import Derived.Below
import Derived.SizedLaws
namespace Go.Proofs.Ytnahijjohgjbdaa.packHeads
open Go.ChangeShapes Go.WideShapes Go.ChangeAt Go.RowKit Go.Sat
set_option linter.unusedVariables false
theorem own : ownKnob Try.prog.godebug = none := by kernel_rfl
theorem laidOut : laidOutB Try.prog = true := by kernel_rfl
theorem walk (w : World) (v0 : Value) (y0 : ((.sl (.sl (.int .u8))) : Ty).den) (r0 : RepD no w (.sl (.sl (.int .u8))) [v0] y0) (f0 : Fits (.sl (.sl (.int .u8))) y0) (b0 : Bnd reachBytes (.sl (.sl (.int .u8))) y0) (v1 : Value) (y1 : ((.int .i64) : Ty).den) (r1 : RepD no w (.int .i64) [v1] y1) (f1 : Fits (.int .i64) y1) (b1 : Bnd reachBytes (.int .i64) y1) (v2 : Value) (y2 : ((.int .i64) : Ty).den) (r2 : RepD no w (.int .i64) [v2] y2) (f2 : Fits (.int .i64) y2) (b2 : Bnd reachBytes (.int .i64) y2)  : Calls Try.prog 8 #[v0, v1, v2] w fun e w' => e = .returned (.bool true) ∧ Below w.heap.size w w' := by
  exact law_below (law_calls (vals := [v0, v1, v2]) K8 rfl (fun E H d hd hx => true_slot hd hx) (x := (y0, y1, y2)) (T8 y0 y1 y2 f0 f1 f2 b0 b1 b2) rfl ⟨r0, r1, r2⟩ (by decide))
set_option maxRecDepth 100000 in
theorem lifted (os : Os) (started : os.Started) (H : Type) (enc : TypeId × Value → H) :
    ReturnsInHanded {} Try.checked os 8 .any (Rows.packHeadsSpec.pre6 enc Try.prog Try.f8 Rows.packHeadsRow.domain false) (Rows.packHeadsSpec.post enc Try.prog Try.f8 false true false false) := by
  refine returnsInHanded_of_change_sized (C := Try.checked) own started (by kernel_rfl) Try.func8
    (ChangeSpec.witness6 (enc := enc) (C := Try.checked) false ⟨#[], #[.slice none 0 0, .int .i64 0, .int .i64 0], []⟩ 8 (by kernel_rfl) (by kernel_rfl) (by kernel_rfl) (by kernel_rfl)) ?_
  intro W base args ds gs before hval0 hW hcnd hsz0 _
  have hval : ∀ (j : Nat) t v, Try.f8.params[j]? = some t → args[j]? = some v → Value.okWide Try.prog W .any base t v := hval0
  have hW' := hW
  obtain ⟨p, q, hA0, hV, rfl, hfz, hnd⟩ := hW
  have hA : DataW.TrodAll enc Try.prog W 0 (fun _ => true) true Try.f8.params.toList args.toList ds p := hA0
  have hsz : (DataW.weightsEach Try.prog (Try.f8.params.toList ++ Rows.packHeadsSpec.plain.varTypes Try.prog) (ds ++ gs)).all (· ≤ reachBytes) = true := hsz0
  rw [Try.params8] at hA hval hsz
  obtain ⟨v0, vs0, d0, ds0, p0, q0, hargs, rfl, rfl, h0, r0⟩ := trodAll_cons hA
  obtain ⟨v1, vs1, d1, ds1, p1, q1, rfl, rfl, rfl, h1, r1⟩ := trodAll_cons r0
  obtain ⟨v2, vs2, d2, ds2, p2, q2, rfl, rfl, rfl, h2, r2⟩ := trodAll_cons r1
  obtain ⟨rfl, rfl, rfl⟩ := trodAll_nil r2
  obtain rfl : args = #[v0, v1, v2] := by cases args; simp_all
  obtain ⟨rfl, rfl⟩ := trodVars_none hV
  have lt0 : ∀ x ∈ p0, x.block < W.heap.size := by obtain ⟨m, hm⟩ := h0; exact DataW.trod_lt m _ _ _ hm
  obtain ⟨y0, k0, f0, b0⟩ := arg_sl (n := 6) (ty := (.sl (.int .u8))) (P := Try.prog) Try.underlying46 (by kernel_rfl) (hval 0 46 v0 rfl rfl) h0
  obtain ⟨w0, hsz⟩ := weigh_head (T := 46) (d := d0) hsz
  have b0 := b0 reachBytes w0
  have lt1 : ∀ x ∈ p1, x.block < W.heap.size := by obtain ⟨m, hm⟩ := h1; exact DataW.trod_lt m _ _ _ hm
  obtain ⟨y1, k1, f1, b1⟩ := arg_int (n := 6) (P := Try.prog) Try.underlying3 (by kernel_rfl) (hval 1 3 v1 rfl rfl) h1
  obtain ⟨w1, hsz⟩ := weigh_head (T := 3) (d := d1) hsz
  have b1 := b1 reachBytes w1
  have lt2 : ∀ x ∈ p2, x.block < W.heap.size := by obtain ⟨m, hm⟩ := h2; exact DataW.trod_lt m _ _ _ hm
  obtain ⟨y2, k2, f2, b2⟩ := arg_int (n := 6) (P := Try.prog) Try.underlying3 (by kernel_rfl) (hval 2 3 v2 rfl rfl) h2
  obtain ⟨w2, hsz⟩ := weigh_head (T := 3) (d := d2) hsz
  have b2 := b2 reachBytes w2
  clear hA0 hval0
  refine (walk W v0 y0 k0 f0 b0 v1 y1 k1 f1 b1 v2 y2 k2 f2 b2).mono fun e W' ⟨he, bel⟩ => ?_
  subst he
  exact ⟨_, rfl, _, _, _, [], _, [], hW', trodAll_mk1 (shut_bool Try.underlying4 _), (trodAll_cons_mk (Below.trod laidOut (by kernel_rfl) (of_decide_eq_true (by kernel_rfl)) h0 bel lt0) (trodAll_cons_mk (Below.trod laidOut (by kernel_rfl) (of_decide_eq_true (by kernel_rfl)) h1 bel lt1) (trodAll_cons_mk (Below.trod laidOut (by kernel_rfl) (of_decide_eq_true (by kernel_rfl)) h2 bel lt2) trodAll_mk0))), rfl, bel.frame _, fun h => by cases h⟩
theorem over : Rows.packHeadsRow.holds Try.pinned (OpenSpec.ofChange Rows.packHeadsSpec) :=
  OpenClaim.holds_of_wide 8 Try.f8 rfl rfl rfl rfl rfl rfl rfl ⟨rfl, rfl, rfl, rfl, rfl⟩ rfl rfl rfl rfl rfl (by kernel_rfl) Try.func8 (by kernel_rfl)
    (of_decide_eq_true (by kernel_rfl)) (by unfold Func.isWrapper; first | (rw [if_pos (by decide +kernel)]; kernel_rfl) | (rw [if_neg (by decide +kernel)]; exact ⟨rfl, rfl⟩))
    (fun os started H enc _ => lifted os started H enc)
/-- the statement -/
theorem proved : Rows.PackHeadsSaid := over
#print axioms proved
end Go.Proofs.Ytnahijjohgjbdaa.packHeads
