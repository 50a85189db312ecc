/- The row of FnExactInverseEdit: for every input the law returns true and leaves its arguments as they were; out of the law's contract and its plain statement. No condition. -/
import Derived.Test.YtinelmmnajelaaaRows
import Derived.Test.YtinelmmnajelaaaPFnExactInverseEditx4
import Derived.Test.YtinelmmnajelaaaOpen
import Derived.Test.YtinelmmnajelaaaPureFnExactInverseEdit
import Derived.WalkKit
import Derived.ProofKit
import Derived.OpenShut
import Derived.ShutString
import Derived.ChangeOld
import Derived.Below
import Derived.SizedLaws
import Derived.Carry
namespace Go.Proofs.Ytinelmmnajelaaa.fnExactInverseEdit
open Go.ChangeShapes Go.WideShapes Go.ChangeAt Go.RowKit Go.Proofs.YtinelmmnajelaaaW.PrintWords Go.Proofs.Ytinelmmnajelaaa.Open Go.Proofs.Ytinelmmnajelaaa.PFnExactInverseEdit
open Go.ChangeMaps (open_string shut_string)
set_option linter.unusedVariables false
theorem own : ownKnob Try.prog.godebug = none := by kernel_rfl
theorem laidOut : laidOutB Try.prog = true := by kernel_rfl
set_option maxRecDepth 100000 in
theorem lifted (os : Os) (started : os.Started) (H : Type) (enc : TypeId × Value → H) :
    ReturnsInHanded {} Try.checked os 3 .any (Rows.fnExactInverseEditSpec.pre6 enc Try.prog Try.f3 Rows.fnExactInverseEditRow.domain false) (Rows.fnExactInverseEditSpec.post enc Try.prog Try.f3 false true false false) := by
  refine returnsInHanded_of_change_sized (C := Try.checked) own started (by kernel_rfl) Try.func3
    (ChangeSpec.witness6 (enc := enc) (C := Try.checked) false ⟨#[], #[.agg #[.int .i64 0, .int .i64 0, .int .i64 0, .int .i64 0, .int .i64 0, .int .i64 0, .int .i64 0, .int .i64 0, .int .i64 0, .int .i64 0, .int .i64 0, .int .i64 0]], []⟩ 8 (by kernel_rfl) (by kernel_rfl) (by kernel_rfl) (by kernel_rfl)) ?_
  intro W base args ds gs before hval0 hW hcnd hsz0 _
  have hsz : (DataW.weightsEach Try.prog (Try.f3.params.toList ++ Rows.fnExactInverseEditSpec.plain.varTypes Try.prog) (ds ++ gs)).all (· ≤ reachBytes) = true := hsz0
  have hval : ∀ (j : Nat) t v, Try.f3.params[j]? = some t → args[j]? = some v → Value.okWide Try.prog W .any base t v := hval0
  have hW' := hW
  obtain ⟨p, q, hA0, hV, rfl, hfz, hnd⟩ := hW
  have hA : DataW.TrodAll enc Try.prog W 0 (fun _ => true) true Try.f3.params.toList args.toList ds p := hA0
  rw [Try.params3] at hA hval hsz
  obtain ⟨v0, vs0, d0, ds0, p0, q0, hargs, rfl, rfl, h0, r0⟩ := trodAll_cons hA
  obtain ⟨rfl, rfl, rfl⟩ := trodAll_nil r0
  obtain rfl : args = #[v0] := by cases args; simp_all
  obtain ⟨rfl, rfl⟩ := trodVars_none hV
  have k0 := h0
  have lt0 : ∀ x ∈ p0, x.block < W.heap.size := by obtain ⟨m, hm⟩ := k0; exact DataW.trod_lt m _ _ _ hm
  obtain ⟨x0, cs0, rfl, hk0, hw0⟩ := agg_of_opens (d := (Kd.pair (Kd.int .i64) (Kd.pair (Kd.int .i64) (Kd.pair (Kd.pair (Kd.int .i64) (Kd.pair (Kd.int .i64) (Kd.pair (Kd.int .i64) (Kd.pair (Kd.int .i64) (Kd.int .i64))))) (Kd.pair (Kd.int .i64) (Kd.pair (Kd.int .i64) (Kd.pair (Kd.int .i64) (Kd.pair (Kd.int .i64) (Kd.int .i64))))))))) Try.underlying25 (hval 0 25 v0 rfl rfl) (opens_struct Try.underlying25 (by kernel_rfl) (tail_cons 0 3 (by kernel_rfl) (opens_int Try.underlying3) (tail_cons 1 3 (by kernel_rfl) (opens_int Try.underlying3) (tail_cons 2 23 (by kernel_rfl) (opens_struct Try.underlying23 (by kernel_rfl) (tail_cons 0 3 (by kernel_rfl) (opens_int Try.underlying3) (tail_cons 1 3 (by kernel_rfl) (opens_int Try.underlying3) (tail_cons 2 3 (by kernel_rfl) (opens_int Try.underlying3) (tail_cons 3 3 (by kernel_rfl) (opens_int Try.underlying3) (tail_last 4 3 (by kernel_rfl) (opens_int Try.underlying3))))))) (tail_last 3 23 (by kernel_rfl) (opens_struct Try.underlying23 (by kernel_rfl) (tail_cons 0 3 (by kernel_rfl) (opens_int Try.underlying3) (tail_cons 1 3 (by kernel_rfl) (opens_int Try.underlying3) (tail_cons 2 3 (by kernel_rfl) (opens_int Try.underlying3) (tail_cons 3 3 (by kernel_rfl) (opens_int Try.underlying3) (tail_last 4 3 (by kernel_rfl) (opens_int Try.underlying3)))))))))))) h0
  obtain ⟨a0_0, a0_1, ⟨a0_2, a0_3, a0_4, a0_5, a0_6⟩, ⟨a0_7, a0_8, a0_9, a0_10, a0_11⟩⟩ := x0
  obtain ⟨_, _, rfl, rfl, ⟨_, _, rfl, rfl, ⟨_, _, rfl, ⟨_, _, rfl, rfl, ⟨_, _, rfl, rfl, ⟨_, _, rfl, rfl, ⟨_, _, rfl, rfl, rfl⟩⟩⟩⟩, ⟨_, _, rfl, rfl, ⟨_, _, rfl, rfl, ⟨_, _, rfl, rfl, ⟨_, _, rfl, rfl, rfl⟩⟩⟩⟩⟩⟩⟩ := hk0
  obtain ⟨w0_0, w0_1, ⟨w0_2, w0_3, w0_4, w0_5, w0_6⟩, ⟨w0_7, w0_8, w0_9, w0_10, w0_11⟩⟩ := hw0
  clear hA0 hval0 hsz0 hsz
  have hf := Pure.FnExactInverseEdit a0_0 a0_1 a0_2 a0_3 a0_4 a0_5 a0_6 a0_7 a0_8 a0_9 a0_10 a0_11 w0_0 w0_1 w0_2 w0_3 w0_4 w0_5 w0_6 w0_7 w0_8 w0_9 w0_10 w0_11
  refine (laws_FnExactInverseEdit.calls a0_0 a0_1 a0_2 a0_3 a0_4 a0_5 a0_6 a0_7 a0_8 a0_9 a0_10 a0_11 true W  hf).mono ?_
  rintro e W' ⟨rfl, hd⟩
  have bel : Below W.heap.size W W' := hd
  exact ⟨_, rfl, _, _, _, [], _, [], hW', trodAll_mk1 (shut_bool Try.underlying4 _), (trodAll_cons_mk (Below.trod laidOut (by kernel_rfl) (of_decide_eq_true (by kernel_rfl)) k0 bel lt0) trodAll_mk0), rfl, bel.frame _, fun h => by cases h⟩
theorem over : Rows.fnExactInverseEditRow.holds Try.pinned (OpenSpec.ofChange Rows.fnExactInverseEditSpec) :=
  OpenClaim.holds_of_wide 3 Try.f3 rfl rfl rfl rfl rfl rfl rfl ⟨rfl, rfl, rfl, rfl, rfl⟩ rfl rfl rfl rfl rfl (by kernel_rfl) Try.func3 (by kernel_rfl)
    (of_decide_eq_true (by kernel_rfl)) (by unfold Func.isWrapper; first | (rw [if_pos (by decide +kernel)]; kernel_rfl) | (rw [if_neg (by decide +kernel)]; exact ⟨rfl, rfl⟩))
    (fun os started H enc _ => lifted os started H enc)
theorem proved : Rows.FnExactInverseEditSaid := over
end Go.Proofs.Ytinelmmnajelaaa.fnExactInverseEdit
namespace Go.Proofs.Ytinelmmnajelaaa
/-- The row, under a short name, for the claim. -/
theorem fnExactInverseEdit_holds : Rows.FnExactInverseEditSaid := fnExactInverseEdit.proved
end Go.Proofs.Ytinelmmnajelaaa
