/- The row of FnLeads: for every input the law returns true and leaves its arguments as they were; out of the law's contract and its plain statement. No condition. -/
import Derived.Test.YtldgjibimolcdaaDoorRows
import Derived.Test.YtldgjibimolcdaaDoorCards
import Derived.Test.YtldgjibimolcdaaDoorTie
import Derived.Test.YtldgjibimolcdaaDoorQFnLeadsx15
import Derived.Test.YtldgjibimolcdaaDoorVLOpen
import Derived.Test.YtldgjibimolcdaaDoorPureFnLeads
import Derived.WalkKit
import Derived.Handed
import Derived.Shelf.Vars
import Derived.ProofKit
import Derived.OpenShut
import Derived.ShutString
import Derived.ChangeOld
import Derived.Below
import Derived.SizedLaws
import Derived.Carry
import Derived.LaidMore
import Derived.Lay
import Derived.SevenTiedAt
import Derived.Stop.Joined
import Derived.OpenVars
import Derived.ChangeVars
namespace Go.Proofs.YtldgjibimolcdaaDoor.fnLeads
open Go.ChangeShapes Go.WideShapes Go.ChangeAt Go.RowKit Go.Proofs.YtldgjibimolcdaaDoorW.PrintWords Go.Proofs.YtldgjibimolcdaaDoor.Open Go.Proofs.YtldgjibimolcdaaDoor.QFnLeads
open Go.ChangeMaps (open_string shut_string)
set_option linter.unusedVariables false
theorem own : ownKnob Tryd.prog.godebug = none := by kernel_rfl
theorem laidOut : laidOutB Tryd.prog = true := by kernel_rfl
theorem and_shaped_ {H : Type} {enc : TypeId × Value → H} {a : Assume} {C : Checked} {os : Os} {f : FuncId} {fn : Func} {s : ChangeSpec} {conds : List PathCond} {apart fresh handsOn again : Bool} {X : World → Array Value → Prop}
    (hX : ∀ (w w' : World) (args : Array Value), w.heap = w'.heap → X w args → X w' args) (own : ownKnob C.prog.godebug = none) (started : os.Started) (noInit : C.prog.inits.idxOf? f = none) (hfn : C.prog.funcs[f]? = some fn)
    (wit : ∃ (w : World) (tape : Tape) (i : Input), w.os = os ∧ (w.forCall tape i).Shaped C.prog ∧ i.vars = [] ∧ Input.okWide C.prog (w.forCall tape i) .any w.heap.size f i ∧
      ((s.pre enc C.prog fn conds apart (w.forCall tape i).memory i.args ∧ X (w.forCall tape i).memory i.args) ∧ sizedMet enc C.prog fn (OpenSpec.ofChange s) apart (w.forCall tape i).memory i.args) ∧ a.holds C.prog (lone (Frame.enter C.prog f i.args .normal) [] (w.forCall tape i)))
    (con : ∀ (W : World) (base : Nat) (args : Array Value) (ds gs : List (DataW H)) (before : List MemPlace), (∀ (j : Nat) t v, fn.params[j]? = some t → args[j]? = some v → Value.okWide C.prog W .any base t v) →
      DataW.Whole enc C.prog fn.params.toList s.vars apart W args.toList ds gs before → conds.all (PathCond.test C.prog ⟨fn.params.toList, ds, s.plain.varTypes C.prog, gs⟩) = true →
      (DataW.weightsEach C.prog (fn.params.toList ++ s.plain.varTypes C.prog) (ds ++ gs)).all (· ≤ reachBytes) = true → X W args → W.ShapedOpen C.prog → a.holds C.prog (lone (Frame.enter C.prog f args .normal) [] W) →
      Calls C.prog f args W fun e W' => ∃ v, e = .returned v ∧ s.post enc C.prog fn apart fresh handsOn again W args v W') :
    ReturnsInHanded a C os f .any (fun w args => (s.pre enc C.prog fn conds apart w args ∧ X w args) ∧ sizedMet enc C.prog fn (OpenSpec.ofChange s) apart w args) (s.post enc C.prog fn apart fresh handsOn again) := by
  refine returnsInHanded_of_calls own started noInit wit fun w tape i _ hsh _ hok hpre hh => ?_
  obtain ⟨_, _, _, g, hg, _, _, _, _, hv⟩ := hok
  obtain rfl : g = fn := Option.some.inj (hg.symm.trans hfn)
  obtain ⟨⟨⟨ds, gs, before, hw, hc⟩, hx⟩, hz⟩ := hpre
  have hw2 := DataW.Whole.of_heap (w' := w.forCall tape i) (by rfl) hw
  refine (con (w.forCall tape i) w.heap.size i.args ds gs before hv hw2 hc (hz.weights hw) (hX _ _ _ (by rfl) hx) hsh hh).mono ?_
  rintro e W' ⟨v, rfl, hp⟩
  exact ChangeSpec.post_blind hp
theorem cell_iface_ {H : Type} {enc : TypeId × Value → H} {P : Program} {w : World} {base fuel g : Nat} {spare : Nat → Bool} {held : Bool} {t : TypeId} {c : Array Value} {ms : Array (String × TypeId)} {x : DataW H × List MemPlace}
    (ht : P.underlying t = some (.interface ms)) (h : DataW.trod enc P w base spare held fuel t c.toList = some x) (hc : ∀ i : Nat, w.cell? ⟨g, i, none⟩ = c[i]?) :
    ∃ ev, w.cell? ⟨g, 0, none⟩ = some ev ∧ (ev = .nilIface ∨ ∃ te pe, ev = .iface te pe) := by
  have e : c.toList = [.nilIface] ∨ ∃ u v, c.toList = [.iface u v] := by
    cases fuel with
    | zero => simp [DataW.trod] at h
    | succ m =>
      unfold DataW.trod at h
      rw [ht] at h
      split at h <;> simp_all
  rw [hc 0, ← Array.getElem?_toList]
  rcases e with e | ⟨u, v, e⟩
  · exact ⟨.nilIface, by rw [e]; rfl, .inl rfl⟩
  · exact ⟨.iface u v, by rw [e]; rfl, .inr ⟨u, v, rfl⟩⟩
theorem tabW_of {W : World} (h : laidMetH Tryd.prog Rows.fnLeadsRow.laid W) (hsh : W.ShapedOpen Tryd.prog) : TabW W := by
  rw [MakeChecks.laidMetH_plain _ _ _ (by kernel_rfl)] at h
  obtain ⟨ps, ⟨g0_, t0_, c0_, f0_, p0_, q0_, hg0_, ht0_, hv0_, hd0_, ⟨g1_, t1_, c1_, f1_, p1_, q1_, hg1_, ht1_, hv1_, hd1_, ⟨g2_, t2_, c2_, f2_, p2_, q2_, hg2_, ht2_, hv2_, hd2_, ⟨g3_, t3_, c3_, f3_, p3_, q3_, hg3_, ht3_, hv3_, hd3_, ⟨g4_, t4_, c4_, f4_, p4_, q4_, hg4_, ht4_, hv4_, hd4_, ⟨g5_, t5_, c5_, f5_, p5_, q5_, hg5_, ht5_, hv5_, hd5_, ⟨g6_, t6_, c6_, f6_, p6_, q6_, hg6_, ht6_, hv6_, hd6_, ⟨g7_, t7_, c7_, f7_, p7_, q7_, hg7_, ht7_, hv7_, hd7_, _, _⟩, _⟩, _⟩, _⟩, _⟩, _⟩, _⟩, _⟩, _⟩ := h
  obtain rfl := Option.some.inj ((show Tryd.prog.globalNamed "internal/strconv.uint64pow10" = some 6 by kernel_rfl).symm.trans hg2_)
  obtain rfl := Option.some.inj ((show (Tryd.prog.globals[6]?).map (·.type) = some 109 by kernel_rfl).symm.trans ht2_)
  obtain rfl := Option.some.inj ((show Tryd.prog.globalNamed "loop.example/g00933/impl.stateWords" = some 0 by kernel_rfl).symm.trans hg6_)
  obtain rfl := Option.some.inj ((show (Tryd.prog.globals[0]?).map (·.type) = some 57 by kernel_rfl).symm.trans ht6_)
  obtain rfl := Option.some.inj ((show Tryd.prog.globalNamed "strconv.ErrSyntax" = some 4 by kernel_rfl).symm.trans hg5_)
  obtain rfl := Option.some.inj ((show (Tryd.prog.globals[4]?).map (·.type) = some 73 by kernel_rfl).symm.trans ht5_)
  obtain rfl := Option.some.inj ((show Tryd.prog.globalNamed "strconv.ErrRange" = some 5 by kernel_rfl).symm.trans hg4_)
  obtain rfl := Option.some.inj ((show (Tryd.prog.globals[5]?).map (·.type) = some 73 by kernel_rfl).symm.trans ht4_)
  refine ⟨?_, fun i hi => ?_, ?_, ?_, ?_⟩
  · have hd := hd2_
    rw [show (Rows.laid_internal_strconv_uint64pow10 : DataW Unit) = Lib.tabData .u64 Lib.pow10Tab by kernel_rfl] at hd
    have e := Lib.cells_of_tab Tryd.underlying109 Tryd.underlying60 (by kernel_rfl) (by kernel_rfl) hd
    show W.var? _ _ = _
    rw [hv2_, ← e]
  · obtain ⟨xs, m, _, ex, _, hl, hel⟩ := DataW.trod_array Tryd.underlying57 hd6_
    have c1 : Tryd.prog.cellsOf 9 = 1 := by kernel_rfl
    have hE := hel i hi
    rw [c1, Nat.mul_one, List.getElem?_eq_getElem (by omega)] at hE
    obtain ⟨z, e1, e2, _⟩ := DataW.trod_string Tryd.underlying9 hE
    have hlen : stWords.length = 4 := by kernel_rfl
    have e3 : (xs.map (·.1)) = stWords.map fun b => .lit (.string b.data.toList) := (DataW.agg.inj (Prod.mk.inj ex).1).symm.trans (by kernel_rfl)
    have e4 : (xs.map (·.1))[i]? = (stWords.map fun b => (DataW.lit (.string b.data.toList) : DataW Unit))[i]? := by rw [e3]
    rw [List.getElem?_map, List.getElem?_map, List.getElem?_eq_getElem (by omega : i < xs.length), List.getElem?_eq_getElem (by omega : i < stWords.length), e2] at e4
    have hz : z = stWords.getD i ByteArray.empty := by
      simp only [Option.map_some, Option.some.injEq, DataW.lit.injEq, Lit.string.injEq] at e4
      rw [List.getD, List.getElem?_eq_getElem (by omega : i < stWords.length)]
      exact ByteArray.ext (Array.ext' e4)
    rw [World.var?_cell hg6_ hv6_ i, ← hz]
    have : c6_.toList[i]? = some (.string z) := by
      have h0 : ((c6_.toList.drop i).take 1)[0]? = some (.string z) := by rw [e1]; rfl
      simpa using h0
    simpa using this
  · exact cell_of_shapedOpen_int (P := Tryd.prog) (g := 1) (t := 3) (zero := #[.int .i64 0]) hsh (of_decide_eq_true (by kernel_rfl)) (by kernel_rfl) rfl (by kernel_rfl) (by kernel_rfl) Tryd.underlying3
  · exact cell_iface_ Tryd.underlying73 hd5_ fun i => World.var?_cell hg5_ hv5_ i
  · exact cell_iface_ Tryd.underlying73 hd4_ fun i => World.var?_cell hg4_ hv4_ i
set_option maxRecDepth 100000 in
theorem lifted (os : Os) (started : os.Started) (H : Type) (enc : TypeId × Value → H) :
    ReturnsInHanded {} Tryd.checked os 5 .any (fun w args => (Rows.fnLeadsSpec.pre enc Tryd.prog Tryd.f5 Rows.fnLeadsRow.domain false w args ∧ laidMetH Tryd.prog Rows.fnLeadsRow.laid w) ∧ sizedMet enc Tryd.prog Tryd.f5 (OpenSpec.ofChange Rows.fnLeadsSpec) false w args) (Rows.fnLeadsSpec.post enc Tryd.prog Tryd.f5 false true false false) := by
  refine and_shaped_ (C := Tryd.checked) (X := fun w _ => laidMetH Tryd.prog Rows.fnLeadsRow.laid w) (fun _ _ _ hh h => h.of_heap hh) own started (by kernel_rfl) Tryd.func5
    (ChangeSpec.witness_shaped (enc := enc) (C := Tryd.checked) (os := os) (X := fun w _ => laidMetH Tryd.prog Rows.fnLeadsRow.laid w) false (World.laidAll Tryd.prog os Rows.fnLeadsRow.laid) #[.slice none 0 0] 8 (World.laidAll_os _ _ _)
      (World.shaped_of_ZipB (by kernel_rfl) (by kernel_rfl)) (by kernel_rfl) (by kernel_rfl) (by kernel_rfl)
      (by rw [MakeChecks.laidMetH_plain _ _ _ (by kernel_rfl)]; exact laidMet_laidAll _ (by kernel_rfl) (by kernel_rfl))) ?_
  intro W base args ds gs before hval0 hW hcnd hsz0 hL hsh _
  have hsz : (DataW.weightsEach Tryd.prog (Tryd.f5.params.toList ++ Rows.fnLeadsSpec.plain.varTypes Tryd.prog) (ds ++ gs)).all (· ≤ reachBytes) = true := hsz0
  have hval : ∀ (j : Nat) t v, Tryd.f5.params[j]? = some t → args[j]? = some v → Value.okWide Tryd.prog W .any base t v := hval0
  have hW' := hW
  obtain ⟨p, q, hA0, hV, rfl, hfz, hnd⟩ := hW
  have hA : DataW.TrodAll enc Tryd.prog W 0 (fun _ => true) true Tryd.f5.params.toList args.toList ds p := hA0
  rw [Tryd.params5] at hA hval hsz
  obtain ⟨v0, vs0, d0, ds0, p0, q0, hargs, rfl, rfl, h0, r0⟩ := trodAll_cons hA
  obtain ⟨rfl, rfl, rfl⟩ := trodAll_nil r0
  obtain rfl : args = #[v0] := by cases args; simp_all
  have hV1 := hV
  obtain ⟨_, _, _, _, gd1, _, rfl, -, -, -, -, -⟩ := trodVars_one hV1
  clear hV1
  have k0 := h0
  have lt0 : ∀ x ∈ p0, x.block < W.heap.size := by obtain ⟨m, hm⟩ := k0; exact DataW.trod_lt m _ _ _ hm
  obtain ⟨A0, len0, cap0, rfl⟩ := okWide_slice Tryd.underlying33 (hval 0 33 v0 rfl rfl)
  obtain ⟨l0, rfl, hr0, hc0, hm0, hw0⟩ := row_of_opens (d := (Kd.int .u8)) Tryd.underlying33 (by kernel_rfl) (opens_int Tryd.underlying5) h0
  clear hA0 hval0 hsz0 hsz
  obtain ⟨k, hf⟩ := Pure.FnLeads l0 hm0 hw0
  refine (laws_FnLeads.calls k _ _ l0 true W hr0 hc0 hf rfl (tabW_of hL hsh)).mono ?_
  rintro e W' ⟨rfl, hd⟩
  have bel : Below W.heap.size W W' := hd
  exact ⟨_, rfl, _, _, _, [], _, q, hW', trodAll_mk1 (shut_bool Tryd.underlying4 _), (trodAll_cons_mk (Below.trod laidOut (by kernel_rfl) (of_decide_eq_true (by kernel_rfl)) k0 bel lt0) trodAll_mk0), Below.trodVars laidOut bel (by kernel_rfl) hV, bel.frame _, fun h => by cases h⟩
theorem over : Rows.fnLeadsRow.holds Tryd.pinned (OpenSpec.ofChange Rows.fnLeadsSpec) :=
  OpenClaim.holds_of_wide 5 Tryd.f5 rfl rfl rfl rfl rfl rfl rfl ⟨rfl, rfl, rfl, rfl, rfl⟩ rfl rfl rfl rfl rfl (by kernel_rfl) Tryd.func5 (by kernel_rfl)
    (of_decide_eq_true (by kernel_rfl)) (by unfold Func.isWrapper; first | (rw [if_pos (by decide +kernel)]; kernel_rfl) | (rw [if_neg (by decide +kernel)]; exact ⟨rfl, rfl⟩))
    (fun os started H enc _ => lifted os started H enc)
theorem card : Rows.FnLeadsCardSaid :=
  Claim7.holds_tied_plain_at .later [] [.data, .data, .data, .data, .sentinel, .sentinel, .widerDeep, .pinned] true (true, "9ef9f3f254d3023ddc949cf99312fe69a3539ad969b4a4e1ec8e84795364375f") true over (fun _ h => by cases h) (by kernel_rfl) (fun _ h => by cases h) fnLeads_row_tie rfl ⟨rfl, rfl⟩ (by kernel_rfl) rfl
    (fun f fn hf hfn => by
      obtain rfl : f = 5 := Option.some.inj ((show Tryd.prog.funcNamed Rows.fnLeadsRow.func = some 5 by kernel_rfl).symm.trans hf) |>.symm
      obtain rfl : fn = Tryd.f5 := (Option.some.inj (Tryd.func5.symm.trans hfn)).symm
      exact ⟨by kernel_rfl, fun j t ht => by
        rw [Tryd.params5] at ht
        have hm : t ∈ [33] := by simpa using Array.mem_of_getElem? ht
        have hall : ([33].all fun u => !Tryd.prog.wantsStandIn u) = true := by kernel_rfl
        exact (show Tryd.prog.wantsStandIn t = false by simpa using List.all_eq_true.1 hall t hm)⟩)
    (by kernel_rfl)
end Go.Proofs.YtldgjibimolcdaaDoor.fnLeads
namespace Go.Proofs.YtldgjibimolcdaaDoor
/-- The tied card, under a short name, for the claim. -/
theorem fnLeads_holds : Rows.FnLeadsCardSaid := fnLeads.card
end Go.Proofs.YtldgjibimolcdaaDoor
