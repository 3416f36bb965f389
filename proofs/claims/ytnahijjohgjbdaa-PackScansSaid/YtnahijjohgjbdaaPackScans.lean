/-
  The law PackScans: it answers true whatever the input, and writes nothing that was there. No condition.
-/
import Derived.Test.YtnahijjohgjbdaaM5
import Derived.Test.YtnahijjohgjbdaaRows
import Derived.WalkKit
import Derived.ProofKit
import Derived.OpenShut
import Derived.ShutString
import Derived.ChangeOld
import Derived.Below
namespace Go.Proofs.Ytnahijjohgjbdaa.packScans
open Go.ChangeShapes Go.WideShapes Go.ChangeAt Go.RowKit Go.Sat
set_option linter.unusedVariables false
theorem own : ownKnob Try.prog.godebug = none := by kernel_rfl
theorem laidOut : laidOutB Try.prog = true := by kernel_rfl
theorem walk (w : World) (v0 : Value) (y0 : ((.sl (.int .u8)) : Ty).den) (r0 : RepD no w (.sl (.int .u8)) [v0] y0) (f0 : Fits (.sl (.int .u8)) y0) (v1 : Value) (y1 : ((.pr (.arr .u8 16) (.pr (.int .i64) (.int .i64))) : Ty).den) (r1 : (∃ cs : List Value, v1 = .agg cs.toArray ∧ RepD no w (.pr (.arr .u8 16) (.pr (.int .i64) (.int .i64))) cs y1)) (f1 : Fits (.pr (.arr .u8 16) (.pr (.int .i64) (.int .i64))) y1)  : Calls Try.prog 4 #[v0, v1] w fun e w' => e = .returned (.bool true) ∧ Below w.heap.size w w' := by
  exact law_below (law_calls (vals := [v0, v1]) K4T rfl (fun E H d hd hx => true_slot hd hx) (x := (y0, y1)) (T4 y0 y1 f0 f1) rfl ⟨r0, r1⟩ (by decide))
set_option maxRecDepth 100000 in
theorem lifted (os : Os) (started : os.Started) (H : Type) (enc : TypeId × Value → H) :
    ReturnsInHanded {} Try.checked os 4 .any (Rows.packScansSpec.pre6 enc Try.prog Try.f4 Rows.packScansRow.domain false) (Rows.packScansSpec.post enc Try.prog Try.f4 false true false false) := by
  refine returnsInHanded_of_change (C := Try.checked) own started (by kernel_rfl) Try.func4
    (ChangeSpec.witness6 (enc := enc) (C := Try.checked) false ⟨#[], #[.slice none 0 0, .agg #[.int .u8 0, .int .u8 0, .int .u8 0, .int .u8 0, .int .u8 0, .int .u8 0, .int .u8 0, .int .u8 0, .int .u8 0, .int .u8 0, .int .u8 0, .int .u8 0, .int .u8 0, .int .u8 0, .int .u8 0, .int .u8 0, .int .i64 0, .int .i64 0]], []⟩ 8 (by kernel_rfl) (by kernel_rfl) (by kernel_rfl) (by kernel_rfl)) ?_
  intro W base args ds gs before hval0 hW hcnd _
  have hval : ∀ (j : Nat) t v, Try.f4.params[j]? = some t → args[j]? = some v → Value.okWide Try.prog W .any base t v := hval0
  have hW' := hW
  obtain ⟨p, q, hA0, hV, rfl, hfz, hnd⟩ := hW
  have hA : DataW.TrodAll enc Try.prog W 0 (fun _ => true) true Try.f4.params.toList args.toList ds p := hA0
  rw [Try.params4] at hA hval
  obtain ⟨v0, vs0, d0, ds0, p0, q0, hargs, rfl, rfl, h0, r0⟩ := trodAll_cons hA
  obtain ⟨v1, vs1, d1, ds1, p1, q1, rfl, rfl, rfl, h1, r1⟩ := trodAll_cons r0
  obtain ⟨rfl, rfl, rfl⟩ := trodAll_nil r1
  obtain rfl : args = #[v0, v1] := by cases args; simp_all
  obtain ⟨rfl, rfl⟩ := trodVars_none hV
  have lt0 : ∀ x ∈ p0, x.block < W.heap.size := by obtain ⟨m, hm⟩ := h0; exact DataW.trod_lt m _ _ _ hm
  obtain ⟨y0, k0, f0⟩ := arg_sl (n := 6) (ty := (.int .u8)) (P := Try.prog) Try.underlying22 (by kernel_rfl) (hval 0 22 v0 rfl rfl) h0 (fun h => by cases h)
  have lt1 : ∀ x ∈ p1, x.block < W.heap.size := by obtain ⟨m, hm⟩ := h1; exact DataW.trod_lt m _ _ _ hm
  obtain ⟨y1, k1, f1⟩ := arg_struct (n := 6) (P := Try.prog) (ty := (.pr (.arr .u8 16) (.pr (.int .i64) (.int .i64)))) Try.underlying35 (by kernel_rfl) rfl rfl (hval 1 35 v1 rfl rfl) h1
  clear hA0 hval0
  refine (walk W v0 y0 k0 f0 v1 y1 k1 f1).mono fun e W' ⟨he, bel⟩ => ?_
  subst he
  exact ⟨_, rfl, _, _, _, [], _, [], hW', trodAll_mk1 (shut_bool Try.underlying4 _), (trodAll_cons_mk (Below.trod laidOut (by kernel_rfl) (of_decide_eq_true (by kernel_rfl)) h0 bel lt0) (trodAll_cons_mk (Below.trod laidOut (by kernel_rfl) (of_decide_eq_true (by kernel_rfl)) h1 bel lt1) trodAll_mk0)), rfl, bel.frame _, fun h => by cases h⟩
theorem over : Rows.packScansRow.holds Try.pinned (OpenSpec.ofChange Rows.packScansSpec) :=
  OpenClaim.holds_of_wide 4 Try.f4 rfl rfl rfl rfl rfl rfl rfl ⟨rfl, rfl, rfl, rfl, rfl⟩ rfl rfl rfl rfl rfl (by kernel_rfl) Try.func4 (by kernel_rfl)
    (of_decide_eq_true (by kernel_rfl)) (by unfold Func.isWrapper; first | (rw [if_pos (by decide +kernel)]; kernel_rfl) | (rw [if_neg (by decide +kernel)]; exact ⟨rfl, rfl⟩))
    (fun os started H enc _ => lifted os started H enc)
/-- the statement -/
theorem proved : Rows.PackScansSaid := over
#print axioms proved
end Go.Proofs.Ytnahijjohgjbdaa.packScans
