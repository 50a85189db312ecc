/- The row of FnExactUndoEdits: for every input the law returns true and leaves its arguments as they were; out of the law's contract and its plain statement. No condition. -/
import Derived.Test.YtinelmmnajelaaaRows
import Derived.Test.YtinelmmnajelaaaQFnExactUndoEditsx12
import Derived.Test.YtinelmmnajelaaaOpen
import Derived.Test.YtinelmmnajelaaaPureFnExactUndoEdits
import Derived.WalkKit
import Derived.ProofKit
import Derived.OpenShut
import Derived.ShutString
import Derived.ChangeOld
import Derived.Below
import Derived.SizedLaws
import Derived.Carry
namespace Go.Proofs.Ytinelmmnajelaaa.fnExactUndoEdits
open Go.ChangeShapes Go.WideShapes Go.ChangeAt Go.RowKit Go.Proofs.YtinelmmnajelaaaW.PrintWords Go.Proofs.Ytinelmmnajelaaa.Open Go.Proofs.Ytinelmmnajelaaa.QFnExactUndoEdits
open Go.ChangeMaps (open_string shut_string)
set_option linter.unusedVariables false
theorem own : ownKnob Try.prog.godebug = none := by kernel_rfl
theorem laidOut : laidOutB Try.prog = true := by kernel_rfl
set_option maxRecDepth 100000 in
theorem lifted (os : Os) (started : os.Started) (H : Type) (enc : TypeId × Value → H) :
    ReturnsInHanded {} Try.checked os 10 .any (Rows.fnExactUndoEditsSpec.pre6 enc Try.prog Try.f10 Rows.fnExactUndoEditsRow.domain false) (Rows.fnExactUndoEditsSpec.post enc Try.prog Try.f10 false true false false) := by
  refine returnsInHanded_of_change_sized (C := Try.checked) own started (by kernel_rfl) Try.func10
    (ChangeSpec.witness6 (enc := enc) (C := Try.checked) false ⟨#[], #[.slice none 0 0, .slice none 0 0, .int .i64 0], []⟩ 8 (by kernel_rfl) (by kernel_rfl) (by kernel_rfl) (by kernel_rfl)) ?_
  intro W base args ds gs before hval0 hW hcnd hsz0 _
  have hsz : (DataW.weightsEach Try.prog (Try.f10.params.toList ++ Rows.fnExactUndoEditsSpec.plain.varTypes Try.prog) (ds ++ gs)).all (· ≤ reachBytes) = true := hsz0
  have hval : ∀ (j : Nat) t v, Try.f10.params[j]? = some t → args[j]? = some v → Value.okWide Try.prog W .any base t v := hval0
  have hW' := hW
  obtain ⟨p, q, hA0, hV, rfl, hfz, hnd⟩ := hW
  have hA : DataW.TrodAll enc Try.prog W 0 (fun _ => true) true Try.f10.params.toList args.toList ds p := hA0
  rw [Try.params10] at hA hval hsz
  obtain ⟨v0, vs0, d0, ds0, p0, q0, hargs, rfl, rfl, h0, r0⟩ := trodAll_cons hA
  obtain ⟨v1, vs1, d1, ds1, p1, q1, rfl, rfl, rfl, h1, r1⟩ := trodAll_cons r0
  obtain ⟨v2, vs2, d2, ds2, p2, q2, rfl, rfl, rfl, h2, r2⟩ := trodAll_cons r1
  obtain ⟨rfl, rfl, rfl⟩ := trodAll_nil r2
  obtain rfl : args = #[v0, v1, v2] := by cases args; simp_all
  obtain ⟨rfl, rfl⟩ := trodVars_none hV
  have k0 := h0
  have lt0 : ∀ x ∈ p0, x.block < W.heap.size := by obtain ⟨m, hm⟩ := k0; exact DataW.trod_lt m _ _ _ hm
  obtain ⟨A0, len0, cap0, rfl⟩ := okWide_slice Try.underlying34 (hval 0 34 v0 rfl rfl)
  obtain ⟨l0, rfl, hr0, hc0, hm0, hw0⟩ := row_of_opens (d := k23) Try.underlying34 (by kernel_rfl) (opens_iso (fun x : S23 => (x.f0, x.f1, x.f2, x.f3, x.f4)) (fun p => ⟨p.1, p.2.1, p.2.2.1, p.2.2.2.1, p.2.2.2.2⟩) (fun _ => rfl) (opens_struct Try.underlying23 (by kernel_rfl) (tail_cons 0 3 (by kernel_rfl) (opens_int Try.underlying3) (tail_cons 1 3 (by kernel_rfl) (opens_int Try.underlying3) (tail_cons 2 3 (by kernel_rfl) (opens_int Try.underlying3) (tail_cons 3 3 (by kernel_rfl) (opens_int Try.underlying3) (tail_last 4 3 (by kernel_rfl) (opens_int Try.underlying3)))))))) h0
  have k1 := h1
  have lt1 : ∀ x ∈ p1, x.block < W.heap.size := by obtain ⟨m, hm⟩ := k1; exact DataW.trod_lt m _ _ _ hm
  obtain ⟨A1, len1, cap1, rfl⟩ := okWide_slice Try.underlying49 (hval 1 49 v1 rfl rfl)
  obtain ⟨l1, rfl, hr1, hc1, hm1, hw1⟩ := row_of_opens (d := k25) Try.underlying49 (by kernel_rfl) (opens_iso (fun x : S25 => (x.f0, x.f1, x.f2, x.f3)) (fun p => ⟨p.1, p.2.1, p.2.2.1, p.2.2.2⟩) (fun _ => rfl) (opens_struct Try.underlying25 (by kernel_rfl) (tail_cons 0 3 (by kernel_rfl) (opens_int Try.underlying3) (tail_cons 1 3 (by kernel_rfl) (opens_int Try.underlying3) (tail_cons 2 23 (by kernel_rfl) (opens_iso (fun x : S23 => (x.f0, x.f1, x.f2, x.f3, x.f4)) (fun p => ⟨p.1, p.2.1, p.2.2.1, p.2.2.2.1, p.2.2.2.2⟩) (fun _ => rfl) (opens_struct Try.underlying23 (by kernel_rfl) (tail_cons 0 3 (by kernel_rfl) (opens_int Try.underlying3) (tail_cons 1 3 (by kernel_rfl) (opens_int Try.underlying3) (tail_cons 2 3 (by kernel_rfl) (opens_int Try.underlying3) (tail_cons 3 3 (by kernel_rfl) (opens_int Try.underlying3) (tail_last 4 3 (by kernel_rfl) (opens_int Try.underlying3)))))))) (tail_last 3 23 (by kernel_rfl) (opens_iso (fun x : S23 => (x.f0, x.f1, x.f2, x.f3, x.f4)) (fun p => ⟨p.1, p.2.1, p.2.2.1, p.2.2.2.1, p.2.2.2.2⟩) (fun _ => rfl) (opens_struct Try.underlying23 (by kernel_rfl) (tail_cons 0 3 (by kernel_rfl) (opens_int Try.underlying3) (tail_cons 1 3 (by kernel_rfl) (opens_int Try.underlying3) (tail_cons 2 3 (by kernel_rfl) (opens_int Try.underlying3) (tail_cons 3 3 (by kernel_rfl) (opens_int Try.underlying3) (tail_last 4 3 (by kernel_rfl) (opens_int Try.underlying3)))))))))))))) h1
  obtain ⟨a2, rfl, rfl, rfl, w2⟩ := open_int Try.underlying3 (hval 2 3 v2 rfl rfl) h2
  clear hA0 hval0 hsz0 hsz
  obtain ⟨k, hf⟩ := Pure.FnExactUndoEdits l0 l1 a2 hm0 hw0 hm1 hw1 w2
  refine (laws_FnExactUndoEdits.calls k _ _ l0 _ _ l1 a2 true W hr0 hc0 hr1 hc1 hf rfl).mono ?_
  rintro e W' ⟨rfl, hd⟩
  have bel : Below W.heap.size W W' := hd
  exact ⟨_, rfl, _, _, _, [], _, [], hW', trodAll_mk1 (shut_bool Try.underlying4 _), (trodAll_cons_mk (Below.trod laidOut (by kernel_rfl) (of_decide_eq_true (by kernel_rfl)) k0 bel lt0) (trodAll_cons_mk (Below.trod laidOut (by kernel_rfl) (of_decide_eq_true (by kernel_rfl)) k1 bel lt1) (trodAll_cons_mk (shut_int Try.underlying3 w2) trodAll_mk0))), rfl, bel.frame _, fun h => by cases h⟩
theorem over : Rows.fnExactUndoEditsRow.holds Try.pinned (OpenSpec.ofChange Rows.fnExactUndoEditsSpec) :=
  OpenClaim.holds_of_wide 10 Try.f10 rfl rfl rfl rfl rfl rfl rfl ⟨rfl, rfl, rfl, rfl, rfl⟩ rfl rfl rfl rfl rfl (by kernel_rfl) Try.func10 (by kernel_rfl)
    (of_decide_eq_true (by kernel_rfl)) (by unfold Func.isWrapper; first | (rw [if_pos (by decide +kernel)]; kernel_rfl) | (rw [if_neg (by decide +kernel)]; exact ⟨rfl, rfl⟩))
    (fun os started H enc _ => lifted os started H enc)
theorem proved : Rows.FnExactUndoEditsSaid := over
end Go.Proofs.Ytinelmmnajelaaa.fnExactUndoEdits
namespace Go.Proofs.Ytinelmmnajelaaa
/-- The row, under a short name, for the claim. -/
theorem fnExactUndoEdits_holds : Rows.FnExactUndoEditsSaid := fnExactUndoEdits.proved
end Go.Proofs.Ytinelmmnajelaaa
