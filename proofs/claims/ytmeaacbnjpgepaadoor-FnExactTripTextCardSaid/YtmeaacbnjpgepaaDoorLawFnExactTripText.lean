/- The row of FnExactTripText: for every input the law returns true and leaves its arguments as they were; out of the law's contract and its plain statement. No condition. -/
import Derived.Test.YtmeaacbnjpgepaaDoorRows
import Derived.Test.YtmeaacbnjpgepaaDoorCards
import Derived.Test.YtmeaacbnjpgepaaDoorTie
import Derived.Test.YtmeaacbnjpgepaaDoorQFnExactTripTextx4
import Derived.Test.YtmeaacbnjpgepaaDoorOpen
import Derived.Test.YtmeaacbnjpgepaaDoorPureFnExactTripText
import Derived.WalkKit
import Derived.ProofKit
import Derived.OpenShut
import Derived.ShutString
import Derived.ChangeOld
import Derived.Below
import Derived.SizedLaws
import Derived.Carry
import Derived.LaidMore
import Derived.Lay
import Derived.SevenTiedAt
import Derived.Stop.Joined
import Derived.OpenVars
import Derived.ChangeVars
namespace Go.Proofs.YtmeaacbnjpgepaaDoor.fnExactTripText
open Go.ChangeShapes Go.WideShapes Go.ChangeAt Go.RowKit Go.Proofs.YtmeaacbnjpgepaaDoorW.PrintWords Go.Proofs.YtmeaacbnjpgepaaDoor.Open Go.Proofs.YtmeaacbnjpgepaaDoor.QFnExactTripText
open Go.ChangeMaps (open_string shut_string)
set_option linter.unusedVariables false
theorem own : ownKnob Tryd.prog.godebug = none := by kernel_rfl
theorem laidOut : laidOutB Tryd.prog = true := by kernel_rfl
theorem tabW_of {W : World} (h : laidMetH Tryd.prog Rows.fnExactTripTextRow.laid W) : TabW W := by
  rw [MakeChecks.laidMetH_plain _ _ _ (by kernel_rfl)] at h
  obtain ⟨ps, ⟨g0_, t0_, c0_, f0_, p0_, q0_, hg0_, ht0_, hv0_, hd0_, ⟨g1_, t1_, c1_, f1_, p1_, q1_, hg1_, ht1_, hv1_, hd1_, ⟨g2_, t2_, c2_, f2_, p2_, q2_, hg2_, ht2_, hv2_, hd2_, ⟨g3_, t3_, c3_, f3_, p3_, q3_, hg3_, ht3_, hv3_, hd3_, _, _⟩, _⟩, _⟩, _⟩, _⟩ := h
  obtain rfl := Option.some.inj ((show Tryd.prog.globalNamed "internal/strconv.uint64pow10" = some 6 by kernel_rfl).symm.trans hg2_)
  obtain rfl := Option.some.inj ((show (Tryd.prog.globals[6]?).map (·.type) = some 93 by kernel_rfl).symm.trans ht2_)
  obtain rfl := Option.some.inj ((show Tryd.prog.globalNamed "loop.example/g00933/impl.tripWords" = some 0 by kernel_rfl).symm.trans hg3_)
  obtain rfl := Option.some.inj ((show (Tryd.prog.globals[0]?).map (·.type) = some 41 by kernel_rfl).symm.trans ht3_)
  refine ⟨?_, fun i hi => ?_⟩
  · have hd := hd2_
    rw [show (Rows.laid_internal_strconv_uint64pow10 : DataW Unit) = Lib.tabData .u64 Lib.pow10Tab by kernel_rfl] at hd
    have e := Lib.cells_of_tab Tryd.underlying93 Tryd.underlying77 (by kernel_rfl) (by kernel_rfl) hd
    show W.var? _ _ = _
    rw [hv2_, ← e]
  · obtain ⟨xs, m, _, ex, _, hl, hel⟩ := DataW.trod_array Tryd.underlying41 hd3_
    have c1 : Tryd.prog.cellsOf 9 = 1 := by kernel_rfl
    have hE := hel i hi
    rw [c1, Nat.mul_one, List.getElem?_eq_getElem (by omega)] at hE
    obtain ⟨z, e1, e2, _⟩ := DataW.trod_string Tryd.underlying9 hE
    have hlen : stWords.length = 6 := by kernel_rfl
    have e3 : (xs.map (·.1)) = stWords.map fun b => .lit (.string b.data.toList) := (DataW.agg.inj (Prod.mk.inj ex).1).symm.trans (by kernel_rfl)
    have e4 : (xs.map (·.1))[i]? = (stWords.map fun b => (DataW.lit (.string b.data.toList) : DataW Unit))[i]? := by rw [e3]
    rw [List.getElem?_map, List.getElem?_map, List.getElem?_eq_getElem (by omega : i < xs.length), List.getElem?_eq_getElem (by omega : i < stWords.length), e2] at e4
    have hz : z = stWords.getD i ByteArray.empty := by
      simp only [Option.map_some, Option.some.injEq, DataW.lit.injEq, Lit.string.injEq] at e4
      rw [List.getD, List.getElem?_eq_getElem (by omega : i < stWords.length)]
      exact ByteArray.ext (Array.ext' e4)
    rw [World.var?_cell hg3_ hv3_ i, ← hz]
    have : c3_.toList[i]? = some (.string z) := by
      have h0 : ((c3_.toList.drop i).take 1)[0]? = some (.string z) := by rw [e1]; rfl
      simpa using h0
    simpa using this
set_option maxRecDepth 100000 in
theorem lifted (os : Os) (started : os.Started) (H : Type) (enc : TypeId × Value → H) :
    ReturnsInHanded {} Tryd.checked os 3 .any (fun w args => (Rows.fnExactTripTextSpec.pre enc Tryd.prog Tryd.f3 Rows.fnExactTripTextRow.domain false w args ∧ laidMetH Tryd.prog Rows.fnExactTripTextRow.laid w) ∧ sizedMet enc Tryd.prog Tryd.f3 (OpenSpec.ofChange Rows.fnExactTripTextSpec) false w args) (Rows.fnExactTripTextSpec.post enc Tryd.prog Tryd.f3 false true false false) := by
  refine returnsInHanded_of_change_and (C := Tryd.checked) (X := fun w _ => laidMetH Tryd.prog Rows.fnExactTripTextRow.laid w) (fun _ _ _ hh h => h.of_heap hh) own started (by kernel_rfl) Tryd.func3
    (ChangeSpec.witness_shaped (enc := enc) (C := Tryd.checked) (os := os) (X := fun w _ => laidMetH Tryd.prog Rows.fnExactTripTextRow.laid w) false (World.laidAll Tryd.prog os Rows.fnExactTripTextRow.laid) #[.agg #[.int .i64 0, .int .i64 0, .int .i64 0, .int .i64 0, .int .i64 0]] 8 (World.laidAll_os _ _ _)
      (World.shaped_of_ZipB (by kernel_rfl) (by kernel_rfl)) (by kernel_rfl) (by kernel_rfl) (by kernel_rfl)
      (by rw [MakeChecks.laidMetH_plain _ _ _ (by kernel_rfl)]; exact laidMet_laidAll _ (by kernel_rfl) (by kernel_rfl))) ?_
  intro W base args ds gs before hval0 hW hcnd hsz0 hL _
  have hsz : (DataW.weightsEach Tryd.prog (Tryd.f3.params.toList ++ Rows.fnExactTripTextSpec.plain.varTypes Tryd.prog) (ds ++ gs)).all (· ≤ reachBytes) = true := hsz0
  have hval : ∀ (j : Nat) t v, Tryd.f3.params[j]? = some t → args[j]? = some v → Value.okWide Tryd.prog W .any base t v := hval0
  have hW' := hW
  obtain ⟨p, q, hA0, hV, rfl, hfz, hnd⟩ := hW
  have hA : DataW.TrodAll enc Tryd.prog W 0 (fun _ => true) true Tryd.f3.params.toList args.toList ds p := hA0
  rw [Tryd.params3] at hA hval hsz
  obtain ⟨v0, vs0, d0, ds0, p0, q0, hargs, rfl, rfl, h0, r0⟩ := trodAll_cons hA
  obtain ⟨rfl, rfl, rfl⟩ := trodAll_nil r0
  obtain rfl : args = #[v0] := by cases args; simp_all
  have hV1 := hV
  obtain ⟨_, _, _, _, gd1, _, rfl, -, -, -, -, -⟩ := trodVars_one hV1
  clear hV1
  have k0 := h0
  have lt0 : ∀ x ∈ p0, x.block < W.heap.size := by obtain ⟨m, hm⟩ := k0; exact DataW.trod_lt m _ _ _ hm
  obtain ⟨x0, cs0, rfl, hk0, hw0⟩ := agg_of_opens (d := (Kd.pair (Kd.int .i64) (Kd.pair (Kd.int .i64) (Kd.pair (Kd.int .i64) (Kd.pair (Kd.int .i64) (Kd.int .i64)))))) Tryd.underlying23 (hval 0 23 v0 rfl rfl) (opens_struct Tryd.underlying23 (by kernel_rfl) (tail_cons 0 3 (by kernel_rfl) (opens_int Tryd.underlying3) (tail_cons 1 3 (by kernel_rfl) (opens_int Tryd.underlying3) (tail_cons 2 3 (by kernel_rfl) (opens_int Tryd.underlying3) (tail_cons 3 3 (by kernel_rfl) (opens_int Tryd.underlying3) (tail_last 4 3 (by kernel_rfl) (opens_int Tryd.underlying3))))))) h0
  obtain ⟨a0_0, a0_1, a0_2, a0_3, a0_4⟩ := x0
  obtain ⟨_, _, rfl, rfl, ⟨_, _, rfl, rfl, ⟨_, _, rfl, rfl, ⟨_, _, rfl, rfl, rfl⟩⟩⟩⟩ := hk0
  obtain ⟨w0_0, w0_1, w0_2, w0_3, w0_4⟩ := hw0
  clear hA0 hval0 hsz0 hsz
  obtain ⟨k, hf⟩ := Pure.FnExactTripText a0_0 a0_1 a0_2 a0_3 a0_4 w0_0 w0_1 w0_2 w0_3 w0_4
  refine (laws_FnExactTripText.calls k a0_0 a0_1 a0_2 a0_3 a0_4 true W  hf (tabW_of hL)).mono ?_
  rintro e W' ⟨rfl, hd⟩
  have bel : Below W.heap.size W W' := hd
  exact ⟨_, rfl, _, _, _, [], _, q, hW', trodAll_mk1 (shut_bool Tryd.underlying4 _), (trodAll_cons_mk (Below.trod laidOut (by kernel_rfl) (of_decide_eq_true (by kernel_rfl)) k0 bel lt0) trodAll_mk0), Below.trodVars laidOut bel (by kernel_rfl) hV, bel.frame _, fun h => by cases h⟩
theorem over : Rows.fnExactTripTextRow.holds Tryd.pinned (OpenSpec.ofChange Rows.fnExactTripTextSpec) :=
  OpenClaim.holds_of_wide 3 Tryd.f3 rfl rfl rfl rfl rfl rfl rfl ⟨rfl, rfl, rfl, rfl, rfl⟩ rfl rfl rfl rfl rfl (by kernel_rfl) Tryd.func3 (by kernel_rfl)
    (of_decide_eq_true (by kernel_rfl)) (by unfold Func.isWrapper; first | (rw [if_pos (by decide +kernel)]; kernel_rfl) | (rw [if_neg (by decide +kernel)]; exact ⟨rfl, rfl⟩))
    (fun os started H enc _ => lifted os started H enc)
theorem card : Rows.FnExactTripTextCardSaid :=
  Claim7.holds_tied_plain_at .later [] [.data, .data, .data, .widerDeep] true (true, "173ff21a7ec890d49dbe70f8b4965e8198039a93fbe32d026be6bbdf5ff384e9") true over (fun _ h => by cases h) (by kernel_rfl) (fun _ h => by cases h) fnExactTripText_row_tie rfl ⟨rfl, rfl⟩ (by kernel_rfl) rfl
    (fun f fn hf hfn => by
      obtain rfl : f = 3 := Option.some.inj ((show Tryd.prog.funcNamed Rows.fnExactTripTextRow.func = some 3 by kernel_rfl).symm.trans hf) |>.symm
      obtain rfl : fn = Tryd.f3 := (Option.some.inj (Tryd.func3.symm.trans hfn)).symm
      exact ⟨by kernel_rfl, fun j t ht => by
        rw [Tryd.params3] at ht
        have hm : t ∈ [23] := by simpa using Array.mem_of_getElem? ht
        have hall : ([23].all fun u => !Tryd.prog.wantsStandIn u) = true := by kernel_rfl
        exact (show Tryd.prog.wantsStandIn t = false by simpa using List.all_eq_true.1 hall t hm)⟩)
    (by kernel_rfl)
end Go.Proofs.YtmeaacbnjpgepaaDoor.fnExactTripText
namespace Go.Proofs.YtmeaacbnjpgepaaDoor
/-- The tied card, under a short name, for the claim. -/
theorem fnExactTripText_holds : Rows.FnExactTripTextCardSaid := fnExactTripText.card
end Go.Proofs.YtmeaacbnjpgepaaDoor
