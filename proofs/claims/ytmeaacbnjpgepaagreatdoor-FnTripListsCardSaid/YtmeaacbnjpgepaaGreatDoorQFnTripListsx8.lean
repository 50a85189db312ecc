/- Contracts of Go functions that FnTripLists reaches: the call computes what the plain function says. No condition. -/
import Derived.Test.YtmeaacbnjpgepaaGreatDoorQFnTripListsx0
import Derived.Test.YtmeaacbnjpgepaaGreatDoorQFnTripListsx6
import Derived.Test.YtmeaacbnjpgepaaGreatDoorQFnTripListsx7
namespace Go.Proofs.YtmeaacbnjpgepaaGreatDoor.QFnTripLists
open Go.RowKit Go.Proofs.YtmeaacbnjpgepaaGreatDoorW.PrintWords Go.Proofs.YtmeaacbnjpgepaaGreatDoorW.PrintLast Go.Proofs.YtmeaacbnjpgepaaGreatDoorW.PrintMore
attribute [local go_sem] max2_int min2_int max_two min_two max_three min_three max_four min_four   -- for this text's walks alone
set_option linter.unusedVariables false
set_option linter.unusedSimpArgs false

/-! ### impl_ParseTrip: function 7 -/
theorem far5_ {W : World} {g : Nat} {a : Addr} {v : Value} (h : W.cell? a = some v) (hne : a.block ≠ g) {o0 o1 o2 o3 o4 : Nat} {u0 u1 u2 u3 u4 : Value} : (((((W.setCell ⟨g, o0, none⟩ u0).setCell ⟨g, o1, none⟩ u1).setCell ⟨g, o2, none⟩ u2).setCell ⟨g, o3, none⟩ u3).setCell ⟨g, o4, none⟩ u4).cell? a = some v := by
 rw [cell_far (p := ⟨g, o4, none⟩) hne, cell_far (p := ⟨g, o3, none⟩) hne, cell_far (p := ⟨g, o2, none⟩) hne, cell_far (p := ⟨g, o1, none⟩) hne, cell_far (p := ⟨g, o0, none⟩) hne]
 exact h
def impl_ParseTrip.j0 : Nat → ByteArray → List ByteArray → Int → Bool → Option (Int × Int × Int × Int × Int × Bool)
 | 0, _, _, _, _ => none
 | k + 1, x0, x4, x5, x25 => if x25 = true then (some (0, 0, 0, 0, 0, false)) else (if 1 < (x4.length : Int) then ((strings_Cut.f (rdOf ByteArray.empty x4 1) (⟨#[47]⟩ : ByteArray)).bind fun bt275 => (if 3 < (x4.length : Int) then (if 5 < (x4.length : Int) then ((impl_parseInts.f k (([bt275.1, bt275.2.1, rdOf ByteArray.empty x4 3, rdOf ByteArray.empty x4 5] : List ByteArray))).bind fun bt283 => (if bt283.2 = true then (if 1 < (bt283.1.length : Int) then (if 0 < (bt283.1.length : Int) then (if 2 < (bt283.1.length : Int) then (if 3 < (bt283.1.length : Int) then ((impl_IsTrip.f k x5 (rd bt283.1 1) (rd bt283.1 0) (rd bt283.1 2) (rd bt283.1 3)).bind fun t292 => (if t292 = true then ((impl_tripText.f x5 (rd bt283.1 1) (rd bt283.1 0) (rd bt283.1 2) (rd bt283.1 3)).bind fun t293 => (if t293.toList = x0.toList then (some (x5, rd bt283.1 1, rd bt283.1 0, rd bt283.1 2, rd bt283.1 3, true)) else (some (0, 0, 0, 0, 0, false)))) else (some (0, 0, 0, 0, 0, false)))) else (none)) else (none)) else (none)) else (none)) else (some (0, 0, 0, 0, 0, false)))) else (none)) else (none))) else (none))
def impl_ParseTrip.f (k : Nat) (a0 : ByteArray) : Option (Int × Int × Int × Int × Int × Bool) := (strings_Split.f a0 (⟨#[32]⟩ : ByteArray)).bind fun t269 => (if 0 < (t269.length : Int) then ((impl_xState.f (rdOf ByteArray.empty t269 0)).bind fun t273 => (if (t269.length : Int) = 6 then (impl_ParseTrip.j0 k a0 t269 t273 (decide (t273 < 0))) else (impl_ParseTrip.j0 k a0 t269 t273 true))) else (none))
theorem impl_ParseTrip.mono_l : ∀ k, (∀ y0 y1 y2 y3, LeO (impl_ParseTrip.j0 k y0 y1 y2 y3) (impl_ParseTrip.j0 (k + 1) y0 y1 y2 y3))
 | 0 => fun _ _ _ _ r h => by simp [impl_ParseTrip.j0] at h
 | k + 1 => by
  have ih0 := impl_ParseTrip.mono_l k
  ·intro y0 y1 y2 y3
   unfold impl_ParseTrip.j0
   repeat' with_reducible first | apply ih0 | apply impl_IsTrip.mono | apply impl_parseInts.mono | exact LeO.refl _ | exact LeO.none _ | refine LeO.ite ?_ ?_ | refine LeO.bind ?_ (fun _ => ?_)
theorem impl_ParseTrip.mono : ∀ a0 k, LeO (impl_ParseTrip.f k a0) (impl_ParseTrip.f (k + 1) a0) := by
 intro a0 k
 have ih0 := impl_ParseTrip.mono_l k
 unfold impl_ParseTrip.f
 repeat' with_reducible first | apply ih0 | apply impl_IsTrip.mono | apply impl_parseInts.mono | exact LeO.refl _ | exact LeO.none _ | refine LeO.ite ?_ ?_ | refine LeO.bind ?_ (fun _ => ?_)
def impl_ParseTrip.T6 : Bool × List (List Nat × List Nat) := (true, [([], []), ([], []), ([], []), ([2], [2]), ([3], [3]), ([], []), ([5], [5]), ([6], [6]), ([0, 1, 4, 7], [0, 1, 4, 7]), ([8], [8]), ([9], [9]), ([10], [10]), ([10], [10]), ([11, 9, 0, 1, 2, 3, 4, 5, 6, 7, 8, 9, 10, 11], [11]), ([12, 13, 0, 1, 2, 3, 4, 5, 6, 7, 8, 9, 10, 11, 12, 13], [12])])
def impl_ParseTrip.B6 : List Nat := [0, 0, 0, 4, 12, 0, 32, 96, 255, 511, 1023, 2047, 2047, 4095, 16383]
theorem impl_ParseTrip.tab6 : rtab .any (opsOf Tryz.f7 6) = impl_ParseTrip.T6 := by kernel_rfl
theorem impl_ParseTrip.bits6 : waitsOk impl_ParseTrip.T6.2 impl_ParseTrip.B6 = true := by kernel_rfl
def impl_ParseTrip.T9 : Bool × List (List Nat × List Nat) := (true, [([], []), ([], []), ([1], [1]), ([2], [2]), ([], []), ([4], [4]), ([5], [5]), ([], []), ([7], [7]), ([8], [8]), ([], []), ([10], [10]), ([11], [11]), ([0, 3, 6, 9, 12], [0, 3, 6, 9, 12]), ([], []), ([14, 13, 0, 1, 2, 3, 4, 5, 6, 7, 8, 9, 10, 11, 12, 13, 14], [13, 14])])
def impl_ParseTrip.B9 : List Nat := [0, 0, 2, 6, 0, 16, 48, 0, 128, 384, 0, 1024, 3072, 8191, 0, 32767]
theorem impl_ParseTrip.tab9 : rtab .any (opsOf Tryz.f7 9) = impl_ParseTrip.T9 := by kernel_rfl
theorem impl_ParseTrip.bits9 : waitsOk impl_ParseTrip.T9.2 impl_ParseTrip.B9 = true := by kernel_rfl
set_option maxHeartbeats 8000000 in
set_option maxRecDepth 100000 in
theorem impl_ParseTrip.calls (k : Nat) (a0 : ByteArray) (r1 r2 r3 r4 r5 : Int) (r6 : Bool) (w : World) (h : impl_ParseTrip.f k a0 = some (r1, r2, r3, r4, r5, r6)) (hTW : TabW w) :
  Calls Tryz.prog 7 #[.string a0] w fun e w' => e = .returned (.tuple #[.agg #[.int .i64 r1, .int .i64 r2, .int .i64 r3, .int .i64 r4, .int .i64 r5], .bool r6]) ∧ Below w.heap.size w w' := by
 have hu25 := Tryz.underlying25
 have HB := Aside0.mk (Below.refl w.heap.size w)
 have H := h
 clear h
 unfold impl_ParseTrip.f at H
 replace H := bA H
 obtain ⟨t269, A2, H⟩ := H
 by_cases c3 : 0 < (t269.length : Int)
 ·rw [if_pos c3] at H
  have c3b0 : decide (0 < (t269.length : Int)) = true := decide_eq_true c3
  have c3b1 : decide (0 < t269.length) = true := decide_eq_true (by omega)
  clear c3
  replace H := bA H
  obtain ⟨t273, A4, H⟩ := H
  have HC5 := Aside0.mk H
  clear H
  go_enter Tryz.func7, Tryz.ntmps7
  try go_wp2_with (first | ((with_reducible refine gD 2 ?_); refine bxE 2 25 #[.int .i64 0, .int .i64 0, .int .i64 0, .int .i64 0, .int .i64 0] fun gb268 w6 hg hbox hb => ?_; have BK268 := Aside0.mk hbox; have GE268 := gB HB hg; replace HB := uB HB hb; clear hb hbox hg) | ((with_reducible refine gate_callee (f := 22) rfl ?_); refine goesL_ (some 13) rfl rfl Tryz.func22 (by kernel_rfl) rfl #[.string a0, .string (⟨#[32]⟩ : ByteArray)] rfl argsB ?_; (with_reducible refine (strings_Split.calls a0 (⟨#[32]⟩ : ByteArray) t269 _ A2.out (TabW.up2 hTW HB.out)).mono ?_); rintro e w7 ⟨v270, rfl, ho0, hb⟩; refine ⟨_, rfl, ?_⟩; have HO271 := Aside0.mk (Kd.R_lower ho0 (below_size (bW HB))); replace BK268 := uK BK268 hb; replace HB := uB HB hb; (try clear hb); (try clear hk); (try clear ho0)))
  replace HO271 := Aside0.mk (Kd.R_drew HO271.out)
  replace BK268 := dK BK268
  replace HB := Aside0.mk (below_drew1 HB.out)
  obtain ⟨Ao9, co9, eo9⟩ := Kd.R_slice HO271.out
  (first | subst eo9 | (injection eo9 with f1_ f2_ f3_; have f4_ := f1_.symm; have f5_ := f3_.symm; clear f1_ f2_ f3_; subst f4_; subst f5_))
  have p272 : 0 ≤ (0 : Int) := (by omega)
  have q272 : 0 < (t269.length : Int) := of_decide_eq_true asmB
  obtain ⟨ad272, e272, hx272_0⟩ := Kd.at_string (Kd.R_reads' HO271.out).2.2 0 p272 q272
  cases e272
  have qi272 : (0 < t269.length) = True := eq_true (by omega)
  (try rw [show ((0 : Int)).toNat = 0 from rfl] at hx272_0)
  (try rw [Addr.add_zero'] at hx272_0)
  replace p272 := eq_true p272
  replace q272 := eq_true q272
  refine start_ (n := 6) (S := fun w' => w'.cell? ad272 = some (.string (rdOf ByteArray.empty t269 0))) (ds := []) #[false, false, false, false, false, false] (by kernel_rfl) rfl rfl (hx272_0) (fun hHeld => ?_)
  generalize w7.drew = w8 at HO271 BK268 HB hx272_0 hHeld ⊢
  refine pure_ (i := 0) (N := some 14) (v := ?_) (a' := ?_) #[true, false, false, false, false, false] rfl rfl (by kernel_rfl) (fun _ _ _ h => h) (Or.inl ⟨by rfl, ?_⟩) ?_ ?_
  rotate_left
  ·intro w'
   go_simp
   with_reducible rfl
  rotate_left
  ·simp only [Act.put, List.setIfInBounds_toArray, List.set_cons_zero, List.set_cons_succ, i64_w, i32_w]
   rfl
  refine pure_ (i := 1) (N := some 15) (v := ?_) (a' := ?_) #[true, true, false, false, false, false] rfl rfl (by kernel_rfl) (fun _ _ _ h => h) (Or.inl ⟨by rfl, ?_⟩) ?_ ?_
  rotate_left
  ·intro w'
   go_simp
   with_reducible rfl
  rotate_left
  ·simp only [Act.put, List.setIfInBounds_toArray, List.set_cons_zero, List.set_cons_succ, i64_w, i32_w]
   rfl
  refine pure_ (i := 2) (N := some 16) (v := ?_) (a' := ?_) #[true, true, true, false, false, false] rfl rfl (by kernel_rfl) (fun _ _ _ h => h) (Or.inl ⟨by rfl, ?_⟩) ?_ ?_
  rotate_left
  ·intro w'
   go_simp
   with_reducible rfl
  rotate_left
  ·simp only [Act.put, List.setIfInBounds_toArray, List.set_cons_zero, List.set_cons_succ, i64_w, i32_w]
   rfl
  refine take_ (i := 3) (N := some 17) (v := ?_) (a' := ?_) #[true, true, true, true, false, false] rfl rfl (by kernel_rfl) (fun _ _ _ h => h) (Or.inl ⟨by rfl, ?_⟩) hHeld ?_ ?_
  rotate_left
  ·intro w' s0
   go_simp
   with_reducible rfl
  rotate_left
  ·simp only [Act.put, List.setIfInBounds_toArray, List.set_cons_zero, List.set_cons_succ, i64_w, i32_w]
   rfl
  refine one_ (i := 4) (N := some 18) #[true, true, true, true, true, false] rfl rfl (by kernel_rfl) (by decide) (fun K hK => ?_)
  refine goes_ Tryz.func23 (by kernel_rfl) rfl #[.slice (some ⟨0, 0, none⟩) 6 6, .string (rdOf ByteArray.empty t269 0)] (by rfl) rfl rfl argsB ?_
  with_reducible refine (impl_xState.calls (rdOf ByteArray.empty t269 0) t273 _ A4.out (TabW.up2 hTW HB.out)).mono ?_
  rintro e w10 ⟨rfl, hb⟩
  have HS0_ := (hb.cell (World.block_lt_of_cell? _ _ (hHeld))).trans (hHeld)
  refine ⟨_, rfl, ?_⟩
  replace HO271 := uR HO271 hb
  replace BK268 := uK BK268 hb
  replace HB := uB HB hb
  (try clear hb)
  refine hK.out _ _ (HS0_) (fun hHeld => ?_)
  clear hK K
  refine nA ?_ (some 18)
  refine pure_ (i := 5) (N := some 5) (v := ?_) (a' := ?_) #[true, true, true, true, true, true] rfl rfl (by kernel_rfl) (fun _ _ _ h => h) (Or.inl ⟨by rfl, ?_⟩) ?_ ?_
  rotate_left
  ·intro w'
   go_simp
   with_reducible rfl
  rotate_left
  ·simp only [Act.put, List.setIfInBounds_toArray, List.set_cons_zero, List.set_cons_succ, i64_w, i32_w]
   rfl
  refine done_ (by kernel_rfl) ?_
  go_upto_region 3 with (fail)
  go_cut [25] (fun v25 wc => ∃ (kq : Nat) (x25_4 : Bool), v25 = .bool x25_4 ∧ Aside0 (impl_ParseTrip.j0 kq a0 t269 t273 x25_4 = some (r1, r2, r3, r4, r5, r6)) ∧ Aside0 (kq ≤ k) ∧ Aside0 (Kd.R Kd.string 9 wc w.heap.size (fun _ => True) (.slice (some ad272) t269.length co9) t269) ∧ Aside0 (wc.heap[gb268]? = some (.cells #[.int .i64 0, .int .i64 0, .int .i64 0, .int .i64 0, .int .i64 0] 25 (0, 0))) ∧ Aside0 (Below w.heap.size w wc))
  case first =>
   have H := HC5.out
   clear HC5
   replace H := ifI H
   rcases H with ⟨H, -, c11b0, c11b1⟩ | ⟨H, c11, c11b0, c11b1⟩
   ·(first | rw [c11b0] | (simp only [i64_w, i32_w]; rw [c11b0]) | skip)
    have H' := Aside0.mk H
    clear H
    go_wp2
    go_meet
    case rel => exact ⟨_, (decide (t273 < 0)), rB, H', leB, ⟨upR HO271.out⟩, (aK BK268), (aB HB)⟩
   ·(first | rw [c11b0] | (simp only [i64_w, i32_w]; rw [c11b0]) | skip)
    have H' := Aside0.mk H
    clear H
    go_wp2
    go_meet
    case rel => exact ⟨_, (true), rB, H', leB, ⟨upR HO271.out⟩, (aK BK268), (aB HB)⟩
  case rest =>
   clear HC5
   try clear c3
   try clear c3b0
   try clear c3b1
   try clear hx272_0
   try clear p272
   try clear q272
   obtain ⟨kq, x25_4, rfl, HA, HJ4, HO_4, BK268, HB⟩ := hcut
   cases kq with
   | zero => exact absurd HA.out (by simp [impl_ParseTrip.j0])
   | succ kj4 =>
    have H := HA.out
    clear HA
    simp only [impl_ParseTrip.j0] at H
    rcases Bool.eq_false_or_eq_true x25_4 with rfl | rfl
    ·replace H := iT rfl H
     simp only [Option.some.injEq, Prod.mk.injEq] at H
     obtain ⟨rfl, rfl, rfl, rfl, rfl, rfl⟩ := H
     have ⟨hcz13_0, hcz13_1, hcz13_2, hcz13_3, hcz13_4, hfz13_0⟩ := cz5 BK268
     go_wp2
     refine bodyPost_ret (results_ct rfl _ _ gb268 25 #[.int .i64 0, .int .i64 0, .int .i64 0, .int .i64 0, .int .i64 0] (0, 0) _ rfl (by exact pW BK268) Tryz.underlying25 rfl (by kernel_rfl)) rfl ?_
     exact ⟨eB, (bW HB)⟩
    ·replace H := iF (by decide) H
     by_cases c14 : 1 < (t269.length : Int)
     ·rw [if_pos c14] at H
      have c14b0 : decide (1 < (t269.length : Int)) = true := decide_eq_true c14
      have c14b1 : decide (1 < t269.length) = true := decide_eq_true (by omega)
      clear c14
      replace H := Option.bind_eq_some_iff.mp H
      obtain ⟨⟨t275, t276, t277⟩, A150, H⟩ := H
      replace H : (if 3 < (t269.length : Int) then (if 5 < (t269.length : Int) then ((impl_parseInts.f kj4 (([t275, t276, rdOf ByteArray.empty t269 3, rdOf ByteArray.empty t269 5] : List ByteArray))).bind fun bt283 => (if bt283.2 = true then (if 1 < (bt283.1.length : Int) then (if 0 < (bt283.1.length : Int) then (if 2 < (bt283.1.length : Int) then (if 3 < (bt283.1.length : Int) then ((impl_IsTrip.f kj4 t273 (rd bt283.1 1) (rd bt283.1 0) (rd bt283.1 2) (rd bt283.1 3)).bind fun t292 => (if t292 = true then ((impl_tripText.f t273 (rd bt283.1 1) (rd bt283.1 0) (rd bt283.1 2) (rd bt283.1 3)).bind fun t293 => (if t293.toList = a0.toList then (some (t273, rd bt283.1 1, rd bt283.1 0, rd bt283.1 2, rd bt283.1 3, true)) else (some (0, 0, 0, 0, 0, false)))) else (some (0, 0, 0, 0, 0, false)))) else (none)) else (none)) else (none)) else (none)) else (some (0, 0, 0, 0, 0, false)))) else (none)) else (none)) = some (r1, r2, r3, r4, r5, r6) := H
      have A15 := Aside0.mk A150
      clear A150
      by_cases c16 : 3 < (t269.length : Int)
      ·rw [if_pos c16] at H
       have c16b0 : decide (3 < (t269.length : Int)) = true := decide_eq_true c16
       have c16b1 : decide (3 < t269.length) = true := decide_eq_true (by omega)
       clear c16
       by_cases c17 : 5 < (t269.length : Int)
       ·rw [if_pos c17] at H
        have c17b0 : decide (5 < (t269.length : Int)) = true := decide_eq_true c17
        have c17b1 : decide (5 < t269.length) = true := decide_eq_true (by omega)
        clear c17
        obtain ⟨y280, hy280⟩ : ∃ y_ : List ByteArray, y_ = (([t275, t276, rdOf ByteArray.empty t269 3, rdOf ByteArray.empty t269 5] : List ByteArray)) := ⟨_, rfl⟩
        replace H : ((impl_parseInts.f kj4 y280).bind fun bt283 => (if bt283.2 = true then (if 1 < (bt283.1.length : Int) then (if 0 < (bt283.1.length : Int) then (if 2 < (bt283.1.length : Int) then (if 3 < (bt283.1.length : Int) then ((impl_IsTrip.f kj4 t273 (rd bt283.1 1) (rd bt283.1 0) (rd bt283.1 2) (rd bt283.1 3)).bind fun t292 => (if t292 = true then ((impl_tripText.f t273 (rd bt283.1 1) (rd bt283.1 0) (rd bt283.1 2) (rd bt283.1 3)).bind fun t293 => (if t293.toList = a0.toList then (some (t273, rd bt283.1 1, rd bt283.1 0, rd bt283.1 2, rd bt283.1 3, true)) else (some (0, 0, 0, 0, 0, false)))) else (some (0, 0, 0, 0, 0, false)))) else (none)) else (none)) else (none)) else (none)) else (some (0, 0, 0, 0, 0, false)))) = some (r1, r2, r3, r4, r5, r6) := by first | (rw [hy280]; with_reducible exact H) | (have H2_ := (Option.bind_some _ _).symm.trans H; rw [hy280]; with_reducible exact H2_) | (have H2_ := (Option.bind_some _ _).symm.trans H; with_reducible exact H2_) | with_reducible exact H | (rw [hy280]; exact H) | exact H
        have Ny280 := Aside0.mk hy280
        clear hy280
        replace H := Option.bind_eq_some_iff.mp H
        obtain ⟨⟨t283, t284⟩, A180, H⟩ := H
        replace H : (if t284 = true then (if 1 < (t283.length : Int) then (if 0 < (t283.length : Int) then (if 2 < (t283.length : Int) then (if 3 < (t283.length : Int) then ((impl_IsTrip.f kj4 t273 (rd t283 1) (rd t283 0) (rd t283 2) (rd t283 3)).bind fun t292 => (if t292 = true then ((impl_tripText.f t273 (rd t283 1) (rd t283 0) (rd t283 2) (rd t283 3)).bind fun t293 => (if t293.toList = a0.toList then (some (t273, rd t283 1, rd t283 0, rd t283 2, rd t283 3, true)) else (some (0, 0, 0, 0, 0, false)))) else (some (0, 0, 0, 0, 0, false)))) else (none)) else (none)) else (none)) else (none)) else (some (0, 0, 0, 0, 0, false))) = some (r1, r2, r3, r4, r5, r6) := H
        have A18 := Aside0.mk A180
        clear A180
        rcases Bool.eq_false_or_eq_true t284 with rfl | rfl
        ·replace H := iT rfl H
         by_cases c20 : 1 < (t283.length : Int)
         ·rw [if_pos c20] at H
          have c20b0 : decide (1 < (t283.length : Int)) = true := decide_eq_true c20
          have c20b1 : decide (1 < t283.length) = true := decide_eq_true (by omega)
          clear c20
          by_cases c21 : 0 < (t283.length : Int)
          ·rw [if_pos c21] at H
           have c21b0 : decide (0 < (t283.length : Int)) = true := decide_eq_true c21
           have c21b1 : decide (0 < t283.length) = true := decide_eq_true (by omega)
           clear c21
           by_cases c22 : 2 < (t283.length : Int)
           ·rw [if_pos c22] at H
            have c22b0 : decide (2 < (t283.length : Int)) = true := decide_eq_true c22
            have c22b1 : decide (2 < t283.length) = true := decide_eq_true (by omega)
            clear c22
            by_cases c23 : 3 < (t283.length : Int)
            ·rw [if_pos c23] at H
             have c23b0 : decide (3 < (t283.length : Int)) = true := decide_eq_true c23
             have c23b1 : decide (3 < t283.length) = true := decide_eq_true (by omega)
             clear c23
             replace H := bA H
             obtain ⟨t292, A24, H⟩ := H
             rcases Bool.eq_false_or_eq_true t292 with rfl | rfl
             ·replace H := iT rfl H
              replace H := bA H
              obtain ⟨t293, A26, H⟩ := H
              replace H := ifI H
              rcases H with ⟨H, -, c27b0, c27b1⟩ | ⟨H, c27, c27b0, c27b1⟩
              ·simp only [Option.some.injEq, Prod.mk.injEq] at H
               obtain ⟨rfl, rfl, rfl, rfl, rfl, rfl⟩ := H
               have p274 : 0 ≤ (1 : Int) := (by omega)
               have q274 : 1 < (t269.length : Int) := of_decide_eq_true asmB
               obtain ⟨ad274, e274, hx274_0⟩ := Kd.at_string (Kd.R_reads' HO_4.out).2.2 1 p274 q274
               obtain rfl : ad272 = ad274 := (by injection e274)
               (try simp only [show (1 : Int).toNat = 1 from rfl, Nat.reduceMul, Nat.reduceEqDiff, Go.Addr.add, ↓reduceIte] at hx274_0)
               have qi274 : (1 < t269.length) = True := eq_true (by omega)
               (try rw [show ((1 : Int)).toNat = 1 from rfl] at hx274_0)
               replace p274 := eq_true p274
               replace q274 := eq_true q274
               try go_wp2_with (first | ((with_reducible refine gC 24 ?_); refine lA (some 31) Tryz.func24 (strings_Cut.calls (rdOf ByteArray.empty t269 1) (⟨#[47]⟩ : ByteArray) t275 t276 t277 _ A15.out (TabW.up2 hTW HB.out)) ?_; intro w28 hb; replace HO_4 := uR HO_4 hb; replace BK268 := uK BK268 hb; replace HB := uB HB hb; (try clear hb); (try clear hk)))
               replace HO_4 := Aside0.mk (Kd.R_drew HO_4.out)
               replace BK268 := dK BK268
               replace HB := Aside0.mk (below_drew1 HB.out)
               have p278 : 0 ≤ (3 : Int) := (by omega)
               have q278 : 3 < (t269.length : Int) := of_decide_eq_true asmB
               obtain ⟨ad278, e278, hx278_0⟩ := Kd.at_string (Kd.R_reads' HO_4.out).2.2 3 p278 q278
               obtain rfl : ad272 = ad278 := (by injection e278)
               (try simp only [show (3 : Int).toNat = 3 from rfl, Nat.reduceMul, Nat.reduceEqDiff, Go.Addr.add, ↓reduceIte] at hx278_0)
               have qi278 : (3 < t269.length) = True := eq_true (by omega)
               (try rw [show ((3 : Int)).toNat = 3 from rfl] at hx278_0)
               replace p278 := eq_true p278
               replace q278 := eq_true q278
               have p279 : 0 ≤ (5 : Int) := (by omega)
               have q279 : 5 < (t269.length : Int) := of_decide_eq_true asmB
               obtain ⟨ad279, e279, hx279_0⟩ := Kd.at_string (Kd.R_reads' HO_4.out).2.2 5 p279 q279
               obtain rfl : ad272 = ad279 := (by injection e279)
               (try simp only [show (5 : Int).toNat = 5 from rfl, Nat.reduceMul, Nat.reduceEqDiff, Go.Addr.add, ↓reduceIte] at hx279_0)
               have qi279 : (5 < t269.length) = True := eq_true (by omega)
               (try rw [show ((5 : Int)).toNat = 5 from rfl] at hx279_0)
               replace p279 := eq_true p279
               replace q279 := eq_true q279
               refine sA (n := 15) (S := fun w' => w'.cell? ⟨ad272.block, ad272.off + 3, none⟩ = some (.string (rdOf ByteArray.empty t269 3)) ∧ w'.cell? ⟨ad272.block, ad272.off + 5, none⟩ = some (.string (rdOf ByteArray.empty t269 5))) (ds := []) impl_ParseTrip.tab6 impl_ParseTrip.bits6 #[false, false, false, false, false, false, false, false, false, false, false, false, false, false, false] ⟨hx278_0, hx279_0⟩ fun hHeld HT_ HW_ => ?_
               generalize w28.drew = w29 at HO_4 BK268 HB hx278_0 hx279_0 hHeld ⊢
               refine pA 0 36 HT_ ?_
               refine pA 1 37 HT_ ?_
               refine pA 2 38 HT_ ?_
               refine pA 3 39 HT_ ?_
               refine pA 5 41 HT_ ?_
               refine pA 6 42 HT_ ?_
               refine tA 4 40 HT_ HW_ hHeld ?_
               refine tA 7 43 HT_ HW_ hHeld ?_
               refine oA 8 (some 44) HT_ fun K hK => ?_
               refine Kd.R_lit_step Kd.string _ 9 ?hg (N := 44) ?hd (xs := ([t275, t276, rdOf ByteArray.empty t269 3, rdOf ByteArray.empty t269 5] : List ByteArray)) (inner := [.string t275, .string t276, .string (rdOf ByteArray.empty t269 3), .string (rdOf ByteArray.empty t269 5)]) (ok := fun _ => True) (okp := fun _ => True) ?hr ?hp (fun _ hk => hk) trivial (Below.refl _ _) (Nat.le_refl _) (by simp) ?_; (case hd => rfl); (case hg => rfl); (case hr => first | (go_simp; done) | (go_simp; rfl)); (case hp => exact (Reps.one (show Kd.M Kd.string _ _ _ t275 [.string t275] from rfl) (Reps.one (show Kd.M Kd.string _ _ _ t276 [.string t276] from rfl) (Reps.one (show Kd.M Kd.string _ _ _ (rdOf ByteArray.empty t269 3) [.string (rdOf ByteArray.empty t269 3)] from rfl) (Reps.one (show Kd.M Kd.string _ _ _ (rdOf ByteArray.empty t269 5) [.string (rdOf ByteArray.empty t269 5)] from rfl) (Reps.none _ _))))))
               intro v281 w30 ho31 hb hg_ hnew_
               have HS0_ := (hb.cell (World.block_lt_of_cell? _ _ (hHeld.1))).trans (hHeld.1)
               have HS1_ := (hb.cell (World.block_lt_of_cell? _ _ (hHeld.2))).trans (hHeld.2)
               clear hg_ hnew_
               (first | rw [← Ny280.out] at ho31 | (simp only [Int.reduceToNat] at ho31; rw [← Ny280.out] at ho31))
               have HO282 := Aside0.mk (Kd.R_lower (Kd.R_new' ho31 (Kd.R_lt (upR HO_4.out))) (below_size (bW HB)))
               replace HO_4 := Aside0.mk (Kd.R_elder' (upR HO_4.out) (Kd.R_base ho31) hb)
               replace BK268 := uK BK268 hb
               replace HB := uB HB hb
               clear hb ho31
               obtain ⟨Ao32, co32, eo32⟩ := Kd.R_slice HO282.out
               (first | subst eo32 | (injection eo32 with f1_ f2_ f3_; have f4_ := f1_.symm; have f5_ := f3_.symm; clear f1_ f2_ f3_; subst f4_; subst f5_))
               refine hK.out _ _ ⟨HS0_, HS1_⟩ (fun hHeld => ?_)
               clear hK K
               refine nA ?_ (some 44)
               refine oA 9 (some 45) HT_ fun K hK => ?_
               refine goes_ Tryz.func25 (by kernel_rfl) rfl #[.slice Ao32 y280.length co32] (by rfl) rfl rfl argsB ?_
               with_reducible refine (impl_parseInts.calls kj4 _ _ y280 t283 true _ ?side1 ?side2 A18.out (TabW.up2 hTW HB.out)).mono ?_
               (case side1 => repeat (first | exact (Kd.R_reads' HO282.out).2.2 | (with_reducible refine Kd.C_alloc ?_ _) | (with_reducible refine Kd.C_drewN ?_ _) | (with_reducible refine Kd.C_drew ?_)))
               (case side2 => exact (Kd.R_reads' HO282.out).2.1)
               rintro e w33 ⟨v285, rfl, ho0, hb⟩
               have HS0_ := (hb.cell (World.block_lt_of_cell? _ _ (hHeld.1))).trans (hHeld.1)
               have HS1_ := (hb.cell (World.block_lt_of_cell? _ _ (hHeld.2))).trans (hHeld.2)
               refine ⟨_, rfl, ?_⟩
               have HO286 := Aside0.mk (Kd.R_lower ho0 (below_size (bW HB)))
               replace HO_4 := uR HO_4 hb
               replace HO282 := uR HO282 hb
               replace BK268 := uK BK268 hb
               replace HB := uB HB hb
               (try clear hb)
               (try clear hk)
               (try clear ho0)
               refine hK.out _ _ ⟨HS0_, HS1_⟩ (fun hHeld => ?_)
               clear hK K
               refine nA ?_ (some 45)
               refine pA 10 35 HT_ ?_
               refine pA 11 46 HT_ ?_
               refine pA 12 47 HT_ ?_
               refine pA 13 9 HT_ ?_
               refine pA 14 10 HT_ ?_
               refine done_ (done_of HT_.out (by kernel_rfl)) ?_
               try go_wp2
               replace HO_4 := Aside0.mk (Kd.R_drew HO_4.out)
               replace HO282 := Aside0.mk (Kd.R_drew HO282.out)
               replace HO286 := Aside0.mk (Kd.R_drew HO286.out)
               replace BK268 := dK BK268
               replace HB := Aside0.mk (below_drew1 HB.out)
               obtain ⟨Ao35, co35, eo35⟩ := Kd.R_slice HO286.out
               (first | subst eo35 | (injection eo35 with f1_ f2_ f3_; have f4_ := f1_.symm; have f5_ := f3_.symm; clear f1_ f2_ f3_; subst f4_; subst f5_))
               have p287 : 0 ≤ (1 : Int) := (by omega)
               have q287 : 1 < (t283.length : Int) := of_decide_eq_true asmB
               obtain ⟨ad287, e287, hx287_0⟩ := Kd.at_int (Kd.R_reads' HO286.out).2.2 1 p287 q287
               cases e287
               (try simp only [show (1 : Int).toNat = 1 from rfl, Nat.reduceMul, Nat.reduceEqDiff, Go.Addr.add, ↓reduceIte] at hx287_0)
               have qi287 : (1 < t283.length) = True := eq_true (by omega)
               (try rw [show ((1 : Int)).toNat = 1 from rfl] at hx287_0)
               replace p287 := eq_true p287
               replace q287 := eq_true q287
               have p288 : 0 ≤ (0 : Int) := (by omega)
               have q288 : 0 < (t283.length : Int) := of_decide_eq_true asmB
               obtain ⟨ad288, e288, hx288_0⟩ := Kd.at_int (Kd.R_reads' HO286.out).2.2 0 p288 q288
               obtain rfl : ad287 = ad288 := (by injection e288)
               have qi288 : (0 < t283.length) = True := eq_true (by omega)
               (try rw [show ((0 : Int)).toNat = 0 from rfl] at hx288_0)
               (try rw [Addr.add_zero'] at hx288_0)
               replace p288 := eq_true p288
               replace q288 := eq_true q288
               have p289 : 0 ≤ (2 : Int) := (by omega)
               have q289 : 2 < (t283.length : Int) := of_decide_eq_true asmB
               obtain ⟨ad289, e289, hx289_0⟩ := Kd.at_int (Kd.R_reads' HO286.out).2.2 2 p289 q289
               obtain rfl : ad287 = ad289 := (by injection e289)
               (try simp only [show (2 : Int).toNat = 2 from rfl, Nat.reduceMul, Nat.reduceEqDiff, Go.Addr.add, ↓reduceIte] at hx289_0)
               have qi289 : (2 < t283.length) = True := eq_true (by omega)
               (try rw [show ((2 : Int)).toNat = 2 from rfl] at hx289_0)
               replace p289 := eq_true p289
               replace q289 := eq_true q289
               have p290 : 0 ≤ (3 : Int) := (by omega)
               have q290 : 3 < (t283.length : Int) := of_decide_eq_true asmB
               obtain ⟨ad290, e290, hx290_0⟩ := Kd.at_int (Kd.R_reads' HO286.out).2.2 3 p290 q290
               obtain rfl : ad287 = ad290 := (by injection e290)
               (try simp only [show (3 : Int).toNat = 3 from rfl, Nat.reduceMul, Nat.reduceEqDiff, Go.Addr.add, ↓reduceIte] at hx290_0)
               have qi290 : (3 < t283.length) = True := eq_true (by omega)
               (try rw [show ((3 : Int)).toNat = 3 from rfl] at hx290_0)
               replace p290 := eq_true p290
               replace q290 := eq_true q290
               refine sA (n := 16) (S := fun w' => w'.cell? ⟨ad287.block, ad287.off + 1, none⟩ = some (.int .i64 (rd t283 1)) ∧ w'.cell? ad287 = some (.int .i64 (rd t283 0)) ∧ w'.cell? ⟨ad287.block, ad287.off + 2, none⟩ = some (.int .i64 (rd t283 2)) ∧ w'.cell? ⟨ad287.block, ad287.off + 3, none⟩ = some (.int .i64 (rd t283 3))) (ds := []) impl_ParseTrip.tab9 impl_ParseTrip.bits9 #[false, false, false, false, false, false, false, false, false, false, false, false, false, false, false, false] ⟨hx287_0, hx288_0, hx289_0, hx290_0⟩ fun hHeld HT_ HW_ => ?_
               generalize w33.drew = w34 at HO_4 HO282 HO286 BK268 HB hx287_0 hx288_0 hx289_0 hx290_0 hHeld ⊢
               refine pA 0 51 HT_ ?_
               refine pA 1 52 HT_ ?_
               refine pA 2 53 HT_ ?_
               refine pA 4 55 HT_ ?_
               refine pA 5 56 HT_ ?_
               refine pA 7 58 HT_ ?_
               refine pA 8 59 HT_ ?_
               refine pA 10 61 HT_ ?_
               refine pA 11 62 HT_ ?_
               refine tA 3 54 HT_ HW_ hHeld ?_
               refine tA 6 57 HT_ HW_ hHeld ?_
               refine tA 9 60 HT_ HW_ hHeld ?_
               refine tA 12 63 HT_ HW_ hHeld ?_
               refine pA 13 64 HT_ ?_
               refine oA 14 (some 11) HT_ fun K hK => ?_
               refine box_step ?hg (N := 11) ?hd (cs := #[.int .i64 0, .int .i64 0, .int .i64 0, .int .i64 0, .int .i64 0]) (t := 25) ?hr ?_; (case hd => rfl); (case hg => rfl); (case hr => first | (go_simp; done) | (go_simp; rfl))
               intro gb291 hg w36 hbox hb
               have HS0_ := (hb.cell (World.block_lt_of_cell? _ _ (hHeld.1))).trans (hHeld.1)
               have HS1_ := (hb.cell (World.block_lt_of_cell? _ _ (hHeld.2.1))).trans (hHeld.2.1)
               have HS2_ := (hb.cell (World.block_lt_of_cell? _ _ (hHeld.2.2.1))).trans (hHeld.2.2.1)
               have HS3_ := (hb.cell (World.block_lt_of_cell? _ _ (hHeld.2.2.2))).trans (hHeld.2.2.2)
               have BK291 := Aside0.mk hbox
               have GE291 := gB HB hg
               have ⟨NB268_291, NB291_268⟩ := nB BK268 hg
               replace HO_4 := uR HO_4 hb
               replace HO282 := uR HO282 hb
               replace HO286 := uR HO286 hb
               replace BK268 := uK BK268 hb
               replace HB := uB HB hb
               clear hb hbox hg
               refine hK.out _ _ ⟨HS0_, HS1_, HS2_, HS3_⟩ (fun hHeld => ?_)
               clear hK K
               refine nA ?_ (some 11)
               refine oA 15 none HT_ fun K hK => ?_
               have hs37 := ci BK291.out 0 0 rfl
               have hfs37 := blk_frozen BK291.out 0
               have hns37_0 := NB268_291.out
               have hms37_0 := NB291_268.out
               have hs38 := ci BK291.out 1 0 rfl
               have hfs38 := blk_frozen BK291.out 1
               have hs39 := ci BK291.out 2 0 rfl
               have hfs39 := blk_frozen BK291.out 2
               have hs40 := ci BK291.out 3 0 rfl
               have hfs40 := blk_frozen BK291.out 3
               have hs41 := ci BK291.out 4 0 rfl
               have hfs41 := blk_frozen BK291.out 4
               refine skip_ (w1 := ?_) (by rfl) rfl ?_ ?_
               rotate_left
               ·go_simp
                rfl
               have hne_ : ad287.block ≠ gb291 := Kd.own_blk (Kd.R_ne HO286.out BK291.out (by decide))
               refine hK.out _ _ ?held_ (fun hHeld => ?_)
               case held_ => exact ⟨far5_ (hHeld.1) hne_, far5_ (hHeld.2.1) hne_, far5_ (hHeld.2.2.1) hne_, far5_ (hHeld.2.2.2) hne_⟩
               clear hK K
               refine done_ (done_of HT_.out (by kernel_rfl)) ?_
               have hcz43_0 := ci BK291.out 0 0 rfl
               have hcz43_1 := ci BK291.out 1 0 rfl
               have hcz43_2 := ci BK291.out 2 0 rfl
               have hcz43_3 := ci BK291.out 3 0 rfl
               have hcz43_4 := ci BK291.out 4 0 rfl
               have hfz43_0 := fun j_ : Nat => blk_frozen BK291.out j_
               try go_wp2_with (first | ((with_reducible refine gC 20 ?_); refine lA (some 66) Tryz.func20 (impl_IsTrip.calls kj4 t273 (rd t283 1) (rd t283 0) (rd t283 2) (rd t283 3) true _ A24.out) ?_; intro w44 hb; replace HO_4 := Aside0.mk (Kd.R_below (by (with_reducible repeat (first | apply Kd.R_alloc | apply Kd.R_drewN | apply Kd.R_drew)); exact (Kd.R_mono (Kd.R_far (p := ⟨gb291, 4, none⟩) (Kd.R_far (p := ⟨gb291, 3, none⟩) (Kd.R_far (p := ⟨gb291, 2, none⟩) (Kd.R_far (p := ⟨gb291, 1, none⟩) (Kd.R_far (p := ⟨gb291, 0, none⟩) (Kd.R_types HO_4.out BK291.out (by decide)) (fun _ hk => hk.2) (.int .i64 t273)) (fun _ hk => hk.2) (.int .i64 (rd t283 1))) (fun _ hk => hk.2) (.int .i64 (rd t283 0))) (fun _ hk => hk.2) (.int .i64 (rd t283 2))) (fun _ hk => hk.2) (.int .i64 (rd t283 3))) (fun _ h_ => h_.1))) hb); replace HO282 := Aside0.mk (Kd.R_below (by (with_reducible repeat (first | apply Kd.R_alloc | apply Kd.R_drewN | apply Kd.R_drew)); exact (Kd.R_mono (Kd.R_far (p := ⟨gb291, 4, none⟩) (Kd.R_far (p := ⟨gb291, 3, none⟩) (Kd.R_far (p := ⟨gb291, 2, none⟩) (Kd.R_far (p := ⟨gb291, 1, none⟩) (Kd.R_far (p := ⟨gb291, 0, none⟩) (Kd.R_types HO282.out BK291.out (by decide)) (fun _ hk => hk.2) (.int .i64 t273)) (fun _ hk => hk.2) (.int .i64 (rd t283 1))) (fun _ hk => hk.2) (.int .i64 (rd t283 0))) (fun _ hk => hk.2) (.int .i64 (rd t283 2))) (fun _ hk => hk.2) (.int .i64 (rd t283 3))) (fun _ h_ => h_.1))) hb); replace HO286 := Aside0.mk (Kd.R_below (by (with_reducible repeat (first | apply Kd.R_alloc | apply Kd.R_drewN | apply Kd.R_drew)); exact (Kd.R_mono (Kd.R_far (p := ⟨gb291, 4, none⟩) (Kd.R_far (p := ⟨gb291, 3, none⟩) (Kd.R_far (p := ⟨gb291, 2, none⟩) (Kd.R_far (p := ⟨gb291, 1, none⟩) (Kd.R_far (p := ⟨gb291, 0, none⟩) (Kd.R_types HO286.out BK291.out (by decide)) (fun _ hk => hk.2) (.int .i64 t273)) (fun _ hk => hk.2) (.int .i64 (rd t283 1))) (fun _ hk => hk.2) (.int .i64 (rd t283 0))) (fun _ hk => hk.2) (.int .i64 (rd t283 2))) (fun _ hk => hk.2) (.int .i64 (rd t283 3))) (fun _ h_ => h_.1))) hb); replace BK268 := uQ BK268 hb #[.int .i64 0, .int .i64 0, .int .i64 0, .int .i64 0, .int .i64 0]; replace BK291 := uQ BK291 hb #[.int .i64 t273, .int .i64 (rd t283 1), .int .i64 (rd t283 0), .int .i64 (rd t283 2), .int .i64 (rd t283 3)]; replace HB := uB HB hb; (try clear hb); (try clear hk); have hcz45_0 := ci BK291.out 0 t273 rfl; have hcz45_1 := ci BK291.out 1 (rd t283 1) rfl; have hcz45_2 := ci BK291.out 2 (rd t283 0) rfl; have hcz45_3 := ci BK291.out 3 (rd t283 2) rfl; have hcz45_4 := ci BK291.out 4 (rd t283 3) rfl; have hfz45_0 := fun j_ : Nat => blk_frozen BK291.out j_) | (go_at_call 21; (with_reducible refine (impl_tripText.calls t273 (rd t283 1) (rd t283 0) (rd t283 2) (rd t283 3) t293 _ A26.out (TabW.up2 hTW HB.out)).mono ?_); rintro e w46 ⟨rfl, hb⟩; replace HO_4 := uR HO_4 hb; replace HO282 := uR HO282 hb; replace HO286 := uR HO286 hb; replace BK268 := uK BK268 hb; replace BK291 := uK BK291 hb; replace HB := uB HB hb; (try clear hb); (try clear hk); have hcz47_0 := ci BK291.out 0 t273 rfl; have hcz47_1 := ci BK291.out 1 (rd t283 1) rfl; have hcz47_2 := ci BK291.out 2 (rd t283 0) rfl; have hcz47_3 := ci BK291.out 3 (rd t283 2) rfl; have hcz47_4 := ci BK291.out 4 (rd t283 3) rfl; have hfz47_0 := fun j_ : Nat => blk_frozen BK291.out j_; have ⟨hcz48_0, hcz48_1, hcz48_2, hcz48_3, hcz48_4, hfz48_0⟩ := cz5 BK268))
               refine bodyPost_ret (results_ct rfl _ _ gb268 25 #[.int .i64 t273, .int .i64 (rd t283 1), .int .i64 (rd t283 0), .int .i64 (rd t283 2), .int .i64 (rd t283 3)] (0, 0) _ rfl (by exact pW BK268) Tryz.underlying25 rfl (by kernel_rfl)) rfl ?_
               exact ⟨eB, (bW HB)⟩
              ·simp only [Option.some.injEq, Prod.mk.injEq] at H
               obtain ⟨rfl, rfl, rfl, rfl, rfl, rfl⟩ := H
               have p274 : 0 ≤ (1 : Int) := (by omega)
               have q274 : 1 < (t269.length : Int) := of_decide_eq_true asmB
               obtain ⟨ad274, e274, hx274_0⟩ := Kd.at_string (Kd.R_reads' HO_4.out).2.2 1 p274 q274
               obtain rfl : ad272 = ad274 := (by injection e274)
               (try simp only [show (1 : Int).toNat = 1 from rfl, Nat.reduceMul, Nat.reduceEqDiff, Go.Addr.add, ↓reduceIte] at hx274_0)
               have qi274 : (1 < t269.length) = True := eq_true (by omega)
               (try rw [show ((1 : Int)).toNat = 1 from rfl] at hx274_0)
               replace p274 := eq_true p274
               replace q274 := eq_true q274
               try go_wp2_with (first | ((with_reducible refine gC 24 ?_); refine lA (some 31) Tryz.func24 (strings_Cut.calls (rdOf ByteArray.empty t269 1) (⟨#[47]⟩ : ByteArray) t275 t276 t277 _ A15.out (TabW.up2 hTW HB.out)) ?_; intro w49 hb; replace HO_4 := uR HO_4 hb; replace BK268 := uK BK268 hb; replace HB := uB HB hb; (try clear hb); (try clear hk)))
               replace HO_4 := Aside0.mk (Kd.R_drew HO_4.out)
               replace BK268 := dK BK268
               replace HB := Aside0.mk (below_drew1 HB.out)
               have p278 : 0 ≤ (3 : Int) := (by omega)
               have q278 : 3 < (t269.length : Int) := of_decide_eq_true asmB
               obtain ⟨ad278, e278, hx278_0⟩ := Kd.at_string (Kd.R_reads' HO_4.out).2.2 3 p278 q278
               obtain rfl : ad272 = ad278 := (by injection e278)
               (try simp only [show (3 : Int).toNat = 3 from rfl, Nat.reduceMul, Nat.reduceEqDiff, Go.Addr.add, ↓reduceIte] at hx278_0)
               have qi278 : (3 < t269.length) = True := eq_true (by omega)
               (try rw [show ((3 : Int)).toNat = 3 from rfl] at hx278_0)
               replace p278 := eq_true p278
               replace q278 := eq_true q278
               have p279 : 0 ≤ (5 : Int) := (by omega)
               have q279 : 5 < (t269.length : Int) := of_decide_eq_true asmB
               obtain ⟨ad279, e279, hx279_0⟩ := Kd.at_string (Kd.R_reads' HO_4.out).2.2 5 p279 q279
               obtain rfl : ad272 = ad279 := (by injection e279)
               (try simp only [show (5 : Int).toNat = 5 from rfl, Nat.reduceMul, Nat.reduceEqDiff, Go.Addr.add, ↓reduceIte] at hx279_0)
               have qi279 : (5 < t269.length) = True := eq_true (by omega)
               (try rw [show ((5 : Int)).toNat = 5 from rfl] at hx279_0)
               replace p279 := eq_true p279
               replace q279 := eq_true q279
               refine sA (n := 15) (S := fun w' => w'.cell? ⟨ad272.block, ad272.off + 3, none⟩ = some (.string (rdOf ByteArray.empty t269 3)) ∧ w'.cell? ⟨ad272.block, ad272.off + 5, none⟩ = some (.string (rdOf ByteArray.empty t269 5))) (ds := []) impl_ParseTrip.tab6 impl_ParseTrip.bits6 #[false, false, false, false, false, false, false, false, false, false, false, false, false, false, false] ⟨hx278_0, hx279_0⟩ fun hHeld HT_ HW_ => ?_
               generalize w49.drew = w50 at HO_4 BK268 HB hx278_0 hx279_0 hHeld ⊢
               refine pA 0 36 HT_ ?_
               refine pA 1 37 HT_ ?_
               refine pA 2 38 HT_ ?_
               refine pA 3 39 HT_ ?_
               refine pA 5 41 HT_ ?_
               refine pA 6 42 HT_ ?_
               refine tA 4 40 HT_ HW_ hHeld ?_
               refine tA 7 43 HT_ HW_ hHeld ?_
               refine oA 8 (some 44) HT_ fun K hK => ?_
               refine Kd.R_lit_step Kd.string _ 9 ?hg (N := 44) ?hd (xs := ([t275, t276, rdOf ByteArray.empty t269 3, rdOf ByteArray.empty t269 5] : List ByteArray)) (inner := [.string t275, .string t276, .string (rdOf ByteArray.empty t269 3), .string (rdOf ByteArray.empty t269 5)]) (ok := fun _ => True) (okp := fun _ => True) ?hr ?hp (fun _ hk => hk) trivial (Below.refl _ _) (Nat.le_refl _) (by simp) ?_; (case hd => rfl); (case hg => rfl); (case hr => first | (go_simp; done) | (go_simp; rfl)); (case hp => exact (Reps.one (show Kd.M Kd.string _ _ _ t275 [.string t275] from rfl) (Reps.one (show Kd.M Kd.string _ _ _ t276 [.string t276] from rfl) (Reps.one (show Kd.M Kd.string _ _ _ (rdOf ByteArray.empty t269 3) [.string (rdOf ByteArray.empty t269 3)] from rfl) (Reps.one (show Kd.M Kd.string _ _ _ (rdOf ByteArray.empty t269 5) [.string (rdOf ByteArray.empty t269 5)] from rfl) (Reps.none _ _))))))
               intro v281 w51 ho52 hb hg_ hnew_
               have HS0_ := (hb.cell (World.block_lt_of_cell? _ _ (hHeld.1))).trans (hHeld.1)
               have HS1_ := (hb.cell (World.block_lt_of_cell? _ _ (hHeld.2))).trans (hHeld.2)
               clear hg_ hnew_
               (first | rw [← Ny280.out] at ho52 | (simp only [Int.reduceToNat] at ho52; rw [← Ny280.out] at ho52))
               have HO282 := Aside0.mk (Kd.R_lower (Kd.R_new' ho52 (Kd.R_lt (upR HO_4.out))) (below_size (bW HB)))
               replace HO_4 := Aside0.mk (Kd.R_elder' (upR HO_4.out) (Kd.R_base ho52) hb)
               replace BK268 := uK BK268 hb
               replace HB := uB HB hb
               clear hb ho52
               obtain ⟨Ao53, co53, eo53⟩ := Kd.R_slice HO282.out
               (first | subst eo53 | (injection eo53 with f1_ f2_ f3_; have f4_ := f1_.symm; have f5_ := f3_.symm; clear f1_ f2_ f3_; subst f4_; subst f5_))
               refine hK.out _ _ ⟨HS0_, HS1_⟩ (fun hHeld => ?_)
               clear hK K
               refine nA ?_ (some 44)
               refine oA 9 (some 45) HT_ fun K hK => ?_
               refine goes_ Tryz.func25 (by kernel_rfl) rfl #[.slice Ao53 y280.length co53] (by rfl) rfl rfl argsB ?_
               with_reducible refine (impl_parseInts.calls kj4 _ _ y280 t283 true _ ?side1 ?side2 A18.out (TabW.up2 hTW HB.out)).mono ?_
               (case side1 => repeat (first | exact (Kd.R_reads' HO282.out).2.2 | (with_reducible refine Kd.C_alloc ?_ _) | (with_reducible refine Kd.C_drewN ?_ _) | (with_reducible refine Kd.C_drew ?_)))
               (case side2 => exact (Kd.R_reads' HO282.out).2.1)
               rintro e w54 ⟨v285, rfl, ho0, hb⟩
               have HS0_ := (hb.cell (World.block_lt_of_cell? _ _ (hHeld.1))).trans (hHeld.1)
               have HS1_ := (hb.cell (World.block_lt_of_cell? _ _ (hHeld.2))).trans (hHeld.2)
               refine ⟨_, rfl, ?_⟩
               have HO286 := Aside0.mk (Kd.R_lower ho0 (below_size (bW HB)))
               replace HO_4 := uR HO_4 hb
               replace HO282 := uR HO282 hb
               replace BK268 := uK BK268 hb
               replace HB := uB HB hb
               (try clear hb)
               (try clear hk)
               (try clear ho0)
               refine hK.out _ _ ⟨HS0_, HS1_⟩ (fun hHeld => ?_)
               clear hK K
               refine nA ?_ (some 45)
               refine pA 10 35 HT_ ?_
               refine pA 11 46 HT_ ?_
               refine pA 12 47 HT_ ?_
               refine pA 13 9 HT_ ?_
               refine pA 14 10 HT_ ?_
               refine done_ (done_of HT_.out (by kernel_rfl)) ?_
               try go_wp2
               replace HO_4 := Aside0.mk (Kd.R_drew HO_4.out)
               replace HO282 := Aside0.mk (Kd.R_drew HO282.out)
               replace HO286 := Aside0.mk (Kd.R_drew HO286.out)
               replace BK268 := dK BK268
               replace HB := Aside0.mk (below_drew1 HB.out)
               obtain ⟨Ao56, co56, eo56⟩ := Kd.R_slice HO286.out
               (first | subst eo56 | (injection eo56 with f1_ f2_ f3_; have f4_ := f1_.symm; have f5_ := f3_.symm; clear f1_ f2_ f3_; subst f4_; subst f5_))
               have p287 : 0 ≤ (1 : Int) := (by omega)
               have q287 : 1 < (t283.length : Int) := of_decide_eq_true asmB
               obtain ⟨ad287, e287, hx287_0⟩ := Kd.at_int (Kd.R_reads' HO286.out).2.2 1 p287 q287
               cases e287
               (try simp only [show (1 : Int).toNat = 1 from rfl, Nat.reduceMul, Nat.reduceEqDiff, Go.Addr.add, ↓reduceIte] at hx287_0)
               have qi287 : (1 < t283.length) = True := eq_true (by omega)
               (try rw [show ((1 : Int)).toNat = 1 from rfl] at hx287_0)
               replace p287 := eq_true p287
               replace q287 := eq_true q287
               have p288 : 0 ≤ (0 : Int) := (by omega)
               have q288 : 0 < (t283.length : Int) := of_decide_eq_true asmB
               obtain ⟨ad288, e288, hx288_0⟩ := Kd.at_int (Kd.R_reads' HO286.out).2.2 0 p288 q288
               obtain rfl : ad287 = ad288 := (by injection e288)
               have qi288 : (0 < t283.length) = True := eq_true (by omega)
               (try rw [show ((0 : Int)).toNat = 0 from rfl] at hx288_0)
               (try rw [Addr.add_zero'] at hx288_0)
               replace p288 := eq_true p288
               replace q288 := eq_true q288
               have p289 : 0 ≤ (2 : Int) := (by omega)
               have q289 : 2 < (t283.length : Int) := of_decide_eq_true asmB
               obtain ⟨ad289, e289, hx289_0⟩ := Kd.at_int (Kd.R_reads' HO286.out).2.2 2 p289 q289
               obtain rfl : ad287 = ad289 := (by injection e289)
               (try simp only [show (2 : Int).toNat = 2 from rfl, Nat.reduceMul, Nat.reduceEqDiff, Go.Addr.add, ↓reduceIte] at hx289_0)
               have qi289 : (2 < t283.length) = True := eq_true (by omega)
               (try rw [show ((2 : Int)).toNat = 2 from rfl] at hx289_0)
               replace p289 := eq_true p289
               replace q289 := eq_true q289
               have p290 : 0 ≤ (3 : Int) := (by omega)
               have q290 : 3 < (t283.length : Int) := of_decide_eq_true asmB
               obtain ⟨ad290, e290, hx290_0⟩ := Kd.at_int (Kd.R_reads' HO286.out).2.2 3 p290 q290
               obtain rfl : ad287 = ad290 := (by injection e290)
               (try simp only [show (3 : Int).toNat = 3 from rfl, Nat.reduceMul, Nat.reduceEqDiff, Go.Addr.add, ↓reduceIte] at hx290_0)
               have qi290 : (3 < t283.length) = True := eq_true (by omega)
               (try rw [show ((3 : Int)).toNat = 3 from rfl] at hx290_0)
               replace p290 := eq_true p290
               replace q290 := eq_true q290
               refine sA (n := 16) (S := fun w' => w'.cell? ⟨ad287.block, ad287.off + 1, none⟩ = some (.int .i64 (rd t283 1)) ∧ w'.cell? ad287 = some (.int .i64 (rd t283 0)) ∧ w'.cell? ⟨ad287.block, ad287.off + 2, none⟩ = some (.int .i64 (rd t283 2)) ∧ w'.cell? ⟨ad287.block, ad287.off + 3, none⟩ = some (.int .i64 (rd t283 3))) (ds := []) impl_ParseTrip.tab9 impl_ParseTrip.bits9 #[false, false, false, false, false, false, false, false, false, false, false, false, false, false, false, false] ⟨hx287_0, hx288_0, hx289_0, hx290_0⟩ fun hHeld HT_ HW_ => ?_
               generalize w54.drew = w55 at HO_4 HO282 HO286 BK268 HB hx287_0 hx288_0 hx289_0 hx290_0 hHeld ⊢
               refine pA 0 51 HT_ ?_
               refine pA 1 52 HT_ ?_
               refine pA 2 53 HT_ ?_
               refine pA 4 55 HT_ ?_
               refine pA 5 56 HT_ ?_
               refine pA 7 58 HT_ ?_
               refine pA 8 59 HT_ ?_
               refine pA 10 61 HT_ ?_
               refine pA 11 62 HT_ ?_
               refine tA 3 54 HT_ HW_ hHeld ?_
               refine tA 6 57 HT_ HW_ hHeld ?_
               refine tA 9 60 HT_ HW_ hHeld ?_
               refine tA 12 63 HT_ HW_ hHeld ?_
               refine pA 13 64 HT_ ?_
               refine oA 14 (some 11) HT_ fun K hK => ?_
               refine box_step ?hg (N := 11) ?hd (cs := #[.int .i64 0, .int .i64 0, .int .i64 0, .int .i64 0, .int .i64 0]) (t := 25) ?hr ?_; (case hd => rfl); (case hg => rfl); (case hr => first | (go_simp; done) | (go_simp; rfl))
               intro gb291 hg w57 hbox hb
               have HS0_ := (hb.cell (World.block_lt_of_cell? _ _ (hHeld.1))).trans (hHeld.1)
               have HS1_ := (hb.cell (World.block_lt_of_cell? _ _ (hHeld.2.1))).trans (hHeld.2.1)
               have HS2_ := (hb.cell (World.block_lt_of_cell? _ _ (hHeld.2.2.1))).trans (hHeld.2.2.1)
               have HS3_ := (hb.cell (World.block_lt_of_cell? _ _ (hHeld.2.2.2))).trans (hHeld.2.2.2)
               have BK291 := Aside0.mk hbox
               have GE291 := gB HB hg
               have ⟨NB268_291, NB291_268⟩ := nB BK268 hg
               replace HO_4 := uR HO_4 hb
               replace HO282 := uR HO282 hb
               replace HO286 := uR HO286 hb
               replace BK268 := uK BK268 hb
               replace HB := uB HB hb
               clear hb hbox hg
               refine hK.out _ _ ⟨HS0_, HS1_, HS2_, HS3_⟩ (fun hHeld => ?_)
               clear hK K
               refine nA ?_ (some 11)
               refine oA 15 none HT_ fun K hK => ?_
               have hs58 := ci BK291.out 0 0 rfl
               have hfs58 := blk_frozen BK291.out 0
               have hns58_0 := NB268_291.out
               have hms58_0 := NB291_268.out
               have hs59 := ci BK291.out 1 0 rfl
               have hfs59 := blk_frozen BK291.out 1
               have hs60 := ci BK291.out 2 0 rfl
               have hfs60 := blk_frozen BK291.out 2
               have hs61 := ci BK291.out 3 0 rfl
               have hfs61 := blk_frozen BK291.out 3
               have hs62 := ci BK291.out 4 0 rfl
               have hfs62 := blk_frozen BK291.out 4
               refine skip_ (w1 := ?_) (by rfl) rfl ?_ ?_
               rotate_left
               ·go_simp
                rfl
               have hne_ : ad287.block ≠ gb291 := Kd.own_blk (Kd.R_ne HO286.out BK291.out (by decide))
               refine hK.out _ _ ?held_ (fun hHeld => ?_)
               case held_ => exact ⟨far5_ (hHeld.1) hne_, far5_ (hHeld.2.1) hne_, far5_ (hHeld.2.2.1) hne_, far5_ (hHeld.2.2.2) hne_⟩
               clear hK K
               refine done_ (done_of HT_.out (by kernel_rfl)) ?_
               have hcz64_0 := ci BK291.out 0 0 rfl
               have hcz64_1 := ci BK291.out 1 0 rfl
               have hcz64_2 := ci BK291.out 2 0 rfl
               have hcz64_3 := ci BK291.out 3 0 rfl
               have hcz64_4 := ci BK291.out 4 0 rfl
               have hfz64_0 := fun j_ : Nat => blk_frozen BK291.out j_
               try go_wp2_with (first | ((with_reducible refine gC 20 ?_); refine lA (some 66) Tryz.func20 (impl_IsTrip.calls kj4 t273 (rd t283 1) (rd t283 0) (rd t283 2) (rd t283 3) true _ A24.out) ?_; intro w65 hb; replace HO_4 := Aside0.mk (Kd.R_below (by (with_reducible repeat (first | apply Kd.R_alloc | apply Kd.R_drewN | apply Kd.R_drew)); exact (Kd.R_mono (Kd.R_far (p := ⟨gb291, 4, none⟩) (Kd.R_far (p := ⟨gb291, 3, none⟩) (Kd.R_far (p := ⟨gb291, 2, none⟩) (Kd.R_far (p := ⟨gb291, 1, none⟩) (Kd.R_far (p := ⟨gb291, 0, none⟩) (Kd.R_types HO_4.out BK291.out (by decide)) (fun _ hk => hk.2) (.int .i64 t273)) (fun _ hk => hk.2) (.int .i64 (rd t283 1))) (fun _ hk => hk.2) (.int .i64 (rd t283 0))) (fun _ hk => hk.2) (.int .i64 (rd t283 2))) (fun _ hk => hk.2) (.int .i64 (rd t283 3))) (fun _ h_ => h_.1))) hb); replace HO282 := Aside0.mk (Kd.R_below (by (with_reducible repeat (first | apply Kd.R_alloc | apply Kd.R_drewN | apply Kd.R_drew)); exact (Kd.R_mono (Kd.R_far (p := ⟨gb291, 4, none⟩) (Kd.R_far (p := ⟨gb291, 3, none⟩) (Kd.R_far (p := ⟨gb291, 2, none⟩) (Kd.R_far (p := ⟨gb291, 1, none⟩) (Kd.R_far (p := ⟨gb291, 0, none⟩) (Kd.R_types HO282.out BK291.out (by decide)) (fun _ hk => hk.2) (.int .i64 t273)) (fun _ hk => hk.2) (.int .i64 (rd t283 1))) (fun _ hk => hk.2) (.int .i64 (rd t283 0))) (fun _ hk => hk.2) (.int .i64 (rd t283 2))) (fun _ hk => hk.2) (.int .i64 (rd t283 3))) (fun _ h_ => h_.1))) hb); replace HO286 := Aside0.mk (Kd.R_below (by (with_reducible repeat (first | apply Kd.R_alloc | apply Kd.R_drewN | apply Kd.R_drew)); exact (Kd.R_mono (Kd.R_far (p := ⟨gb291, 4, none⟩) (Kd.R_far (p := ⟨gb291, 3, none⟩) (Kd.R_far (p := ⟨gb291, 2, none⟩) (Kd.R_far (p := ⟨gb291, 1, none⟩) (Kd.R_far (p := ⟨gb291, 0, none⟩) (Kd.R_types HO286.out BK291.out (by decide)) (fun _ hk => hk.2) (.int .i64 t273)) (fun _ hk => hk.2) (.int .i64 (rd t283 1))) (fun _ hk => hk.2) (.int .i64 (rd t283 0))) (fun _ hk => hk.2) (.int .i64 (rd t283 2))) (fun _ hk => hk.2) (.int .i64 (rd t283 3))) (fun _ h_ => h_.1))) hb); replace BK268 := uQ BK268 hb #[.int .i64 0, .int .i64 0, .int .i64 0, .int .i64 0, .int .i64 0]; replace BK291 := uQ BK291 hb #[.int .i64 t273, .int .i64 (rd t283 1), .int .i64 (rd t283 0), .int .i64 (rd t283 2), .int .i64 (rd t283 3)]; replace HB := uB HB hb; (try clear hb); (try clear hk); have hcz66_0 := ci BK291.out 0 t273 rfl; have hcz66_1 := ci BK291.out 1 (rd t283 1) rfl; have hcz66_2 := ci BK291.out 2 (rd t283 0) rfl; have hcz66_3 := ci BK291.out 3 (rd t283 2) rfl; have hcz66_4 := ci BK291.out 4 (rd t283 3) rfl; have hfz66_0 := fun j_ : Nat => blk_frozen BK291.out j_) | (go_at_call 21; (with_reducible refine (impl_tripText.calls t273 (rd t283 1) (rd t283 0) (rd t283 2) (rd t283 3) t293 _ A26.out (TabW.up2 hTW HB.out)).mono ?_); rintro e w67 ⟨rfl, hb⟩; replace HO_4 := uR HO_4 hb; replace HO282 := uR HO282 hb; replace HO286 := uR HO286 hb; replace BK268 := uK BK268 hb; replace BK291 := uK BK291 hb; replace HB := uB HB hb; (try clear hb); (try clear hk); have ⟨hcz68_0, hcz68_1, hcz68_2, hcz68_3, hcz68_4, hfz68_0⟩ := cz5 BK268))
               refine bodyPost_ret (results_ct rfl _ _ gb268 25 #[.int .i64 0, .int .i64 0, .int .i64 0, .int .i64 0, .int .i64 0] (0, 0) _ rfl (by exact pW BK268) Tryz.underlying25 rfl (by kernel_rfl)) rfl ?_
               exact ⟨eB, (bW HB)⟩
             ·replace H := iF (by decide) H
              simp only [Option.some.injEq, Prod.mk.injEq] at H
              obtain ⟨rfl, rfl, rfl, rfl, rfl, rfl⟩ := H
              have p274 : 0 ≤ (1 : Int) := (by omega)
              have q274 : 1 < (t269.length : Int) := of_decide_eq_true asmB
              obtain ⟨ad274, e274, hx274_0⟩ := Kd.at_string (Kd.R_reads' HO_4.out).2.2 1 p274 q274
              obtain rfl : ad272 = ad274 := (by injection e274)
              (try simp only [show (1 : Int).toNat = 1 from rfl, Nat.reduceMul, Nat.reduceEqDiff, Go.Addr.add, ↓reduceIte] at hx274_0)
              have qi274 : (1 < t269.length) = True := eq_true (by omega)
              (try rw [show ((1 : Int)).toNat = 1 from rfl] at hx274_0)
              replace p274 := eq_true p274
              replace q274 := eq_true q274
              try go_wp2_with (first | ((with_reducible refine gC 24 ?_); refine lA (some 31) Tryz.func24 (strings_Cut.calls (rdOf ByteArray.empty t269 1) (⟨#[47]⟩ : ByteArray) t275 t276 t277 _ A15.out (TabW.up2 hTW HB.out)) ?_; intro w69 hb; replace HO_4 := uR HO_4 hb; replace BK268 := uK BK268 hb; replace HB := uB HB hb; (try clear hb); (try clear hk)))
              replace HO_4 := Aside0.mk (Kd.R_drew HO_4.out)
              replace BK268 := dK BK268
              replace HB := Aside0.mk (below_drew1 HB.out)
              have p278 : 0 ≤ (3 : Int) := (by omega)
              have q278 : 3 < (t269.length : Int) := of_decide_eq_true asmB
              obtain ⟨ad278, e278, hx278_0⟩ := Kd.at_string (Kd.R_reads' HO_4.out).2.2 3 p278 q278
              obtain rfl : ad272 = ad278 := (by injection e278)
              (try simp only [show (3 : Int).toNat = 3 from rfl, Nat.reduceMul, Nat.reduceEqDiff, Go.Addr.add, ↓reduceIte] at hx278_0)
              have qi278 : (3 < t269.length) = True := eq_true (by omega)
              (try rw [show ((3 : Int)).toNat = 3 from rfl] at hx278_0)
              replace p278 := eq_true p278
              replace q278 := eq_true q278
              have p279 : 0 ≤ (5 : Int) := (by omega)
              have q279 : 5 < (t269.length : Int) := of_decide_eq_true asmB
              obtain ⟨ad279, e279, hx279_0⟩ := Kd.at_string (Kd.R_reads' HO_4.out).2.2 5 p279 q279
              obtain rfl : ad272 = ad279 := (by injection e279)
              (try simp only [show (5 : Int).toNat = 5 from rfl, Nat.reduceMul, Nat.reduceEqDiff, Go.Addr.add, ↓reduceIte] at hx279_0)
              have qi279 : (5 < t269.length) = True := eq_true (by omega)
              (try rw [show ((5 : Int)).toNat = 5 from rfl] at hx279_0)
              replace p279 := eq_true p279
              replace q279 := eq_true q279
              refine sA (n := 15) (S := fun w' => w'.cell? ⟨ad272.block, ad272.off + 3, none⟩ = some (.string (rdOf ByteArray.empty t269 3)) ∧ w'.cell? ⟨ad272.block, ad272.off + 5, none⟩ = some (.string (rdOf ByteArray.empty t269 5))) (ds := []) impl_ParseTrip.tab6 impl_ParseTrip.bits6 #[false, false, false, false, false, false, false, false, false, false, false, false, false, false, false] ⟨hx278_0, hx279_0⟩ fun hHeld HT_ HW_ => ?_
              generalize w69.drew = w70 at HO_4 BK268 HB hx278_0 hx279_0 hHeld ⊢
              refine pA 0 36 HT_ ?_
              refine pA 1 37 HT_ ?_
              refine pA 2 38 HT_ ?_
              refine pA 3 39 HT_ ?_
              refine pA 5 41 HT_ ?_
              refine pA 6 42 HT_ ?_
              refine tA 4 40 HT_ HW_ hHeld ?_
              refine tA 7 43 HT_ HW_ hHeld ?_
              refine oA 8 (some 44) HT_ fun K hK => ?_
              refine Kd.R_lit_step Kd.string _ 9 ?hg (N := 44) ?hd (xs := ([t275, t276, rdOf ByteArray.empty t269 3, rdOf ByteArray.empty t269 5] : List ByteArray)) (inner := [.string t275, .string t276, .string (rdOf ByteArray.empty t269 3), .string (rdOf ByteArray.empty t269 5)]) (ok := fun _ => True) (okp := fun _ => True) ?hr ?hp (fun _ hk => hk) trivial (Below.refl _ _) (Nat.le_refl _) (by simp) ?_; (case hd => rfl); (case hg => rfl); (case hr => first | (go_simp; done) | (go_simp; rfl)); (case hp => exact (Reps.one (show Kd.M Kd.string _ _ _ t275 [.string t275] from rfl) (Reps.one (show Kd.M Kd.string _ _ _ t276 [.string t276] from rfl) (Reps.one (show Kd.M Kd.string _ _ _ (rdOf ByteArray.empty t269 3) [.string (rdOf ByteArray.empty t269 3)] from rfl) (Reps.one (show Kd.M Kd.string _ _ _ (rdOf ByteArray.empty t269 5) [.string (rdOf ByteArray.empty t269 5)] from rfl) (Reps.none _ _))))))
              intro v281 w71 ho72 hb hg_ hnew_
              have HS0_ := (hb.cell (World.block_lt_of_cell? _ _ (hHeld.1))).trans (hHeld.1)
              have HS1_ := (hb.cell (World.block_lt_of_cell? _ _ (hHeld.2))).trans (hHeld.2)
              clear hg_ hnew_
              (first | rw [← Ny280.out] at ho72 | (simp only [Int.reduceToNat] at ho72; rw [← Ny280.out] at ho72))
              have HO282 := Aside0.mk (Kd.R_lower (Kd.R_new' ho72 (Kd.R_lt (upR HO_4.out))) (below_size (bW HB)))
              replace HO_4 := Aside0.mk (Kd.R_elder' (upR HO_4.out) (Kd.R_base ho72) hb)
              replace BK268 := uK BK268 hb
              replace HB := uB HB hb
              clear hb ho72
              obtain ⟨Ao73, co73, eo73⟩ := Kd.R_slice HO282.out
              (first | subst eo73 | (injection eo73 with f1_ f2_ f3_; have f4_ := f1_.symm; have f5_ := f3_.symm; clear f1_ f2_ f3_; subst f4_; subst f5_))
              refine hK.out _ _ ⟨HS0_, HS1_⟩ (fun hHeld => ?_)
              clear hK K
              refine nA ?_ (some 44)
              refine oA 9 (some 45) HT_ fun K hK => ?_
              refine goes_ Tryz.func25 (by kernel_rfl) rfl #[.slice Ao73 y280.length co73] (by rfl) rfl rfl argsB ?_
              with_reducible refine (impl_parseInts.calls kj4 _ _ y280 t283 true _ ?side1 ?side2 A18.out (TabW.up2 hTW HB.out)).mono ?_
              (case side1 => repeat (first | exact (Kd.R_reads' HO282.out).2.2 | (with_reducible refine Kd.C_alloc ?_ _) | (with_reducible refine Kd.C_drewN ?_ _) | (with_reducible refine Kd.C_drew ?_)))
              (case side2 => exact (Kd.R_reads' HO282.out).2.1)
              rintro e w74 ⟨v285, rfl, ho0, hb⟩
              have HS0_ := (hb.cell (World.block_lt_of_cell? _ _ (hHeld.1))).trans (hHeld.1)
              have HS1_ := (hb.cell (World.block_lt_of_cell? _ _ (hHeld.2))).trans (hHeld.2)
              refine ⟨_, rfl, ?_⟩
              have HO286 := Aside0.mk (Kd.R_lower ho0 (below_size (bW HB)))
              replace HO_4 := uR HO_4 hb
              replace HO282 := uR HO282 hb
              replace BK268 := uK BK268 hb
              replace HB := uB HB hb
              (try clear hb)
              (try clear hk)
              (try clear ho0)
              refine hK.out _ _ ⟨HS0_, HS1_⟩ (fun hHeld => ?_)
              clear hK K
              refine nA ?_ (some 45)
              refine pA 10 35 HT_ ?_
              refine pA 11 46 HT_ ?_
              refine pA 12 47 HT_ ?_
              refine pA 13 9 HT_ ?_
              refine pA 14 10 HT_ ?_
              refine done_ (done_of HT_.out (by kernel_rfl)) ?_
              try go_wp2
              replace HO_4 := Aside0.mk (Kd.R_drew HO_4.out)
              replace HO282 := Aside0.mk (Kd.R_drew HO282.out)
              replace HO286 := Aside0.mk (Kd.R_drew HO286.out)
              replace BK268 := dK BK268
              replace HB := Aside0.mk (below_drew1 HB.out)
              obtain ⟨Ao76, co76, eo76⟩ := Kd.R_slice HO286.out
              (first | subst eo76 | (injection eo76 with f1_ f2_ f3_; have f4_ := f1_.symm; have f5_ := f3_.symm; clear f1_ f2_ f3_; subst f4_; subst f5_))
              have p287 : 0 ≤ (1 : Int) := (by omega)
              have q287 : 1 < (t283.length : Int) := of_decide_eq_true asmB
              obtain ⟨ad287, e287, hx287_0⟩ := Kd.at_int (Kd.R_reads' HO286.out).2.2 1 p287 q287
              cases e287
              (try simp only [show (1 : Int).toNat = 1 from rfl, Nat.reduceMul, Nat.reduceEqDiff, Go.Addr.add, ↓reduceIte] at hx287_0)
              have qi287 : (1 < t283.length) = True := eq_true (by omega)
              (try rw [show ((1 : Int)).toNat = 1 from rfl] at hx287_0)
              replace p287 := eq_true p287
              replace q287 := eq_true q287
              have p288 : 0 ≤ (0 : Int) := (by omega)
              have q288 : 0 < (t283.length : Int) := of_decide_eq_true asmB
              obtain ⟨ad288, e288, hx288_0⟩ := Kd.at_int (Kd.R_reads' HO286.out).2.2 0 p288 q288
              obtain rfl : ad287 = ad288 := (by injection e288)
              have qi288 : (0 < t283.length) = True := eq_true (by omega)
              (try rw [show ((0 : Int)).toNat = 0 from rfl] at hx288_0)
              (try rw [Addr.add_zero'] at hx288_0)
              replace p288 := eq_true p288
              replace q288 := eq_true q288
              have p289 : 0 ≤ (2 : Int) := (by omega)
              have q289 : 2 < (t283.length : Int) := of_decide_eq_true asmB
              obtain ⟨ad289, e289, hx289_0⟩ := Kd.at_int (Kd.R_reads' HO286.out).2.2 2 p289 q289
              obtain rfl : ad287 = ad289 := (by injection e289)
              (try simp only [show (2 : Int).toNat = 2 from rfl, Nat.reduceMul, Nat.reduceEqDiff, Go.Addr.add, ↓reduceIte] at hx289_0)
              have qi289 : (2 < t283.length) = True := eq_true (by omega)
              (try rw [show ((2 : Int)).toNat = 2 from rfl] at hx289_0)
              replace p289 := eq_true p289
              replace q289 := eq_true q289
              have p290 : 0 ≤ (3 : Int) := (by omega)
              have q290 : 3 < (t283.length : Int) := of_decide_eq_true asmB
              obtain ⟨ad290, e290, hx290_0⟩ := Kd.at_int (Kd.R_reads' HO286.out).2.2 3 p290 q290
              obtain rfl : ad287 = ad290 := (by injection e290)
              (try simp only [show (3 : Int).toNat = 3 from rfl, Nat.reduceMul, Nat.reduceEqDiff, Go.Addr.add, ↓reduceIte] at hx290_0)
              have qi290 : (3 < t283.length) = True := eq_true (by omega)
              (try rw [show ((3 : Int)).toNat = 3 from rfl] at hx290_0)
              replace p290 := eq_true p290
              replace q290 := eq_true q290
              refine sA (n := 16) (S := fun w' => w'.cell? ⟨ad287.block, ad287.off + 1, none⟩ = some (.int .i64 (rd t283 1)) ∧ w'.cell? ad287 = some (.int .i64 (rd t283 0)) ∧ w'.cell? ⟨ad287.block, ad287.off + 2, none⟩ = some (.int .i64 (rd t283 2)) ∧ w'.cell? ⟨ad287.block, ad287.off + 3, none⟩ = some (.int .i64 (rd t283 3))) (ds := []) impl_ParseTrip.tab9 impl_ParseTrip.bits9 #[false, false, false, false, false, false, false, false, false, false, false, false, false, false, false, false] ⟨hx287_0, hx288_0, hx289_0, hx290_0⟩ fun hHeld HT_ HW_ => ?_
              generalize w74.drew = w75 at HO_4 HO282 HO286 BK268 HB hx287_0 hx288_0 hx289_0 hx290_0 hHeld ⊢
              refine pA 0 51 HT_ ?_
              refine pA 1 52 HT_ ?_
              refine pA 2 53 HT_ ?_
              refine pA 4 55 HT_ ?_
              refine pA 5 56 HT_ ?_
              refine pA 7 58 HT_ ?_
              refine pA 8 59 HT_ ?_
              refine pA 10 61 HT_ ?_
              refine pA 11 62 HT_ ?_
              refine tA 3 54 HT_ HW_ hHeld ?_
              refine tA 6 57 HT_ HW_ hHeld ?_
              refine tA 9 60 HT_ HW_ hHeld ?_
              refine tA 12 63 HT_ HW_ hHeld ?_
              refine pA 13 64 HT_ ?_
              refine oA 14 (some 11) HT_ fun K hK => ?_
              refine box_step ?hg (N := 11) ?hd (cs := #[.int .i64 0, .int .i64 0, .int .i64 0, .int .i64 0, .int .i64 0]) (t := 25) ?hr ?_; (case hd => rfl); (case hg => rfl); (case hr => first | (go_simp; done) | (go_simp; rfl))
              intro gb291 hg w77 hbox hb
              have HS0_ := (hb.cell (World.block_lt_of_cell? _ _ (hHeld.1))).trans (hHeld.1)
              have HS1_ := (hb.cell (World.block_lt_of_cell? _ _ (hHeld.2.1))).trans (hHeld.2.1)
              have HS2_ := (hb.cell (World.block_lt_of_cell? _ _ (hHeld.2.2.1))).trans (hHeld.2.2.1)
              have HS3_ := (hb.cell (World.block_lt_of_cell? _ _ (hHeld.2.2.2))).trans (hHeld.2.2.2)
              have BK291 := Aside0.mk hbox
              have GE291 := gB HB hg
              have ⟨NB268_291, NB291_268⟩ := nB BK268 hg
              replace HO_4 := uR HO_4 hb
              replace HO282 := uR HO282 hb
              replace HO286 := uR HO286 hb
              replace BK268 := uK BK268 hb
              replace HB := uB HB hb
              clear hb hbox hg
              refine hK.out _ _ ⟨HS0_, HS1_, HS2_, HS3_⟩ (fun hHeld => ?_)
              clear hK K
              refine nA ?_ (some 11)
              refine oA 15 none HT_ fun K hK => ?_
              have hs78 := ci BK291.out 0 0 rfl
              have hfs78 := blk_frozen BK291.out 0
              have hns78_0 := NB268_291.out
              have hms78_0 := NB291_268.out
              have hs79 := ci BK291.out 1 0 rfl
              have hfs79 := blk_frozen BK291.out 1
              have hs80 := ci BK291.out 2 0 rfl
              have hfs80 := blk_frozen BK291.out 2
              have hs81 := ci BK291.out 3 0 rfl
              have hfs81 := blk_frozen BK291.out 3
              have hs82 := ci BK291.out 4 0 rfl
              have hfs82 := blk_frozen BK291.out 4
              refine skip_ (w1 := ?_) (by rfl) rfl ?_ ?_
              rotate_left
              ·go_simp
               rfl
              have hne_ : ad287.block ≠ gb291 := Kd.own_blk (Kd.R_ne HO286.out BK291.out (by decide))
              refine hK.out _ _ ?held_ (fun hHeld => ?_)
              case held_ => exact ⟨far5_ (hHeld.1) hne_, far5_ (hHeld.2.1) hne_, far5_ (hHeld.2.2.1) hne_, far5_ (hHeld.2.2.2) hne_⟩
              clear hK K
              refine done_ (done_of HT_.out (by kernel_rfl)) ?_
              have hcz84_0 := ci BK291.out 0 0 rfl
              have hcz84_1 := ci BK291.out 1 0 rfl
              have hcz84_2 := ci BK291.out 2 0 rfl
              have hcz84_3 := ci BK291.out 3 0 rfl
              have hcz84_4 := ci BK291.out 4 0 rfl
              have hfz84_0 := fun j_ : Nat => blk_frozen BK291.out j_
              try go_wp2_with (first | ((with_reducible refine gC 20 ?_); refine lA (some 66) Tryz.func20 (impl_IsTrip.calls kj4 t273 (rd t283 1) (rd t283 0) (rd t283 2) (rd t283 3) false _ A24.out) ?_; intro w85 hb; replace HO_4 := Aside0.mk (Kd.R_below (by (with_reducible repeat (first | apply Kd.R_alloc | apply Kd.R_drewN | apply Kd.R_drew)); exact (Kd.R_mono (Kd.R_far (p := ⟨gb291, 4, none⟩) (Kd.R_far (p := ⟨gb291, 3, none⟩) (Kd.R_far (p := ⟨gb291, 2, none⟩) (Kd.R_far (p := ⟨gb291, 1, none⟩) (Kd.R_far (p := ⟨gb291, 0, none⟩) (Kd.R_types HO_4.out BK291.out (by decide)) (fun _ hk => hk.2) (.int .i64 t273)) (fun _ hk => hk.2) (.int .i64 (rd t283 1))) (fun _ hk => hk.2) (.int .i64 (rd t283 0))) (fun _ hk => hk.2) (.int .i64 (rd t283 2))) (fun _ hk => hk.2) (.int .i64 (rd t283 3))) (fun _ h_ => h_.1))) hb); replace HO282 := Aside0.mk (Kd.R_below (by (with_reducible repeat (first | apply Kd.R_alloc | apply Kd.R_drewN | apply Kd.R_drew)); exact (Kd.R_mono (Kd.R_far (p := ⟨gb291, 4, none⟩) (Kd.R_far (p := ⟨gb291, 3, none⟩) (Kd.R_far (p := ⟨gb291, 2, none⟩) (Kd.R_far (p := ⟨gb291, 1, none⟩) (Kd.R_far (p := ⟨gb291, 0, none⟩) (Kd.R_types HO282.out BK291.out (by decide)) (fun _ hk => hk.2) (.int .i64 t273)) (fun _ hk => hk.2) (.int .i64 (rd t283 1))) (fun _ hk => hk.2) (.int .i64 (rd t283 0))) (fun _ hk => hk.2) (.int .i64 (rd t283 2))) (fun _ hk => hk.2) (.int .i64 (rd t283 3))) (fun _ h_ => h_.1))) hb); replace HO286 := Aside0.mk (Kd.R_below (by (with_reducible repeat (first | apply Kd.R_alloc | apply Kd.R_drewN | apply Kd.R_drew)); exact (Kd.R_mono (Kd.R_far (p := ⟨gb291, 4, none⟩) (Kd.R_far (p := ⟨gb291, 3, none⟩) (Kd.R_far (p := ⟨gb291, 2, none⟩) (Kd.R_far (p := ⟨gb291, 1, none⟩) (Kd.R_far (p := ⟨gb291, 0, none⟩) (Kd.R_types HO286.out BK291.out (by decide)) (fun _ hk => hk.2) (.int .i64 t273)) (fun _ hk => hk.2) (.int .i64 (rd t283 1))) (fun _ hk => hk.2) (.int .i64 (rd t283 0))) (fun _ hk => hk.2) (.int .i64 (rd t283 2))) (fun _ hk => hk.2) (.int .i64 (rd t283 3))) (fun _ h_ => h_.1))) hb); replace BK268 := uQ BK268 hb #[.int .i64 0, .int .i64 0, .int .i64 0, .int .i64 0, .int .i64 0]; replace BK291 := uQ BK291 hb #[.int .i64 t273, .int .i64 (rd t283 1), .int .i64 (rd t283 0), .int .i64 (rd t283 2), .int .i64 (rd t283 3)]; replace HB := uB HB hb; (try clear hb); (try clear hk); have ⟨hcz86_0, hcz86_1, hcz86_2, hcz86_3, hcz86_4, hfz86_0⟩ := cz5 BK268))
              refine bodyPost_ret (results_ct rfl _ _ gb268 25 #[.int .i64 0, .int .i64 0, .int .i64 0, .int .i64 0, .int .i64 0] (0, 0) _ rfl (by exact pW BK268) Tryz.underlying25 rfl (by kernel_rfl)) rfl ?_
              exact ⟨eB, (bW HB)⟩
            ·rw [if_neg c23] at H
             exact absurd H (by simp)
           ·rw [if_neg c22] at H
            exact absurd H (by simp)
          ·rw [if_neg c21] at H
           exact absurd H (by simp)
         ·rw [if_neg c20] at H
          exact absurd H (by simp)
        ·replace H := iF (by decide) H
         simp only [Option.some.injEq, Prod.mk.injEq] at H
         obtain ⟨rfl, rfl, rfl, rfl, rfl, rfl⟩ := H
         have p274 : 0 ≤ (1 : Int) := (by omega)
         have q274 : 1 < (t269.length : Int) := of_decide_eq_true asmB
         obtain ⟨ad274, e274, hx274_0⟩ := Kd.at_string (Kd.R_reads' HO_4.out).2.2 1 p274 q274
         obtain rfl : ad272 = ad274 := (by injection e274)
         (try simp only [show (1 : Int).toNat = 1 from rfl, Nat.reduceMul, Nat.reduceEqDiff, Go.Addr.add, ↓reduceIte] at hx274_0)
         have qi274 : (1 < t269.length) = True := eq_true (by omega)
         (try rw [show ((1 : Int)).toNat = 1 from rfl] at hx274_0)
         replace p274 := eq_true p274
         replace q274 := eq_true q274
         try go_wp2_with (first | ((with_reducible refine gC 24 ?_); refine lA (some 31) Tryz.func24 (strings_Cut.calls (rdOf ByteArray.empty t269 1) (⟨#[47]⟩ : ByteArray) t275 t276 t277 _ A15.out (TabW.up2 hTW HB.out)) ?_; intro w87 hb; replace HO_4 := uR HO_4 hb; replace BK268 := uK BK268 hb; replace HB := uB HB hb; (try clear hb); (try clear hk)))
         replace HO_4 := Aside0.mk (Kd.R_drew HO_4.out)
         replace BK268 := dK BK268
         replace HB := Aside0.mk (below_drew1 HB.out)
         have p278 : 0 ≤ (3 : Int) := (by omega)
         have q278 : 3 < (t269.length : Int) := of_decide_eq_true asmB
         obtain ⟨ad278, e278, hx278_0⟩ := Kd.at_string (Kd.R_reads' HO_4.out).2.2 3 p278 q278
         obtain rfl : ad272 = ad278 := (by injection e278)
         (try simp only [show (3 : Int).toNat = 3 from rfl, Nat.reduceMul, Nat.reduceEqDiff, Go.Addr.add, ↓reduceIte] at hx278_0)
         have qi278 : (3 < t269.length) = True := eq_true (by omega)
         (try rw [show ((3 : Int)).toNat = 3 from rfl] at hx278_0)
         replace p278 := eq_true p278
         replace q278 := eq_true q278
         have p279 : 0 ≤ (5 : Int) := (by omega)
         have q279 : 5 < (t269.length : Int) := of_decide_eq_true asmB
         obtain ⟨ad279, e279, hx279_0⟩ := Kd.at_string (Kd.R_reads' HO_4.out).2.2 5 p279 q279
         obtain rfl : ad272 = ad279 := (by injection e279)
         (try simp only [show (5 : Int).toNat = 5 from rfl, Nat.reduceMul, Nat.reduceEqDiff, Go.Addr.add, ↓reduceIte] at hx279_0)
         have qi279 : (5 < t269.length) = True := eq_true (by omega)
         (try rw [show ((5 : Int)).toNat = 5 from rfl] at hx279_0)
         replace p279 := eq_true p279
         replace q279 := eq_true q279
         refine sA (n := 15) (S := fun w' => w'.cell? ⟨ad272.block, ad272.off + 3, none⟩ = some (.string (rdOf ByteArray.empty t269 3)) ∧ w'.cell? ⟨ad272.block, ad272.off + 5, none⟩ = some (.string (rdOf ByteArray.empty t269 5))) (ds := []) impl_ParseTrip.tab6 impl_ParseTrip.bits6 #[false, false, false, false, false, false, false, false, false, false, false, false, false, false, false] ⟨hx278_0, hx279_0⟩ fun hHeld HT_ HW_ => ?_
         generalize w87.drew = w88 at HO_4 BK268 HB hx278_0 hx279_0 hHeld ⊢
         refine pA 0 36 HT_ ?_
         refine pA 1 37 HT_ ?_
         refine pA 2 38 HT_ ?_
         refine pA 3 39 HT_ ?_
         refine pA 5 41 HT_ ?_
         refine pA 6 42 HT_ ?_
         refine tA 4 40 HT_ HW_ hHeld ?_
         refine tA 7 43 HT_ HW_ hHeld ?_
         refine oA 8 (some 44) HT_ fun K hK => ?_
         refine Kd.R_lit_step Kd.string _ 9 ?hg (N := 44) ?hd (xs := ([t275, t276, rdOf ByteArray.empty t269 3, rdOf ByteArray.empty t269 5] : List ByteArray)) (inner := [.string t275, .string t276, .string (rdOf ByteArray.empty t269 3), .string (rdOf ByteArray.empty t269 5)]) (ok := fun _ => True) (okp := fun _ => True) ?hr ?hp (fun _ hk => hk) trivial (Below.refl _ _) (Nat.le_refl _) (by simp) ?_; (case hd => rfl); (case hg => rfl); (case hr => first | (go_simp; done) | (go_simp; rfl)); (case hp => exact (Reps.one (show Kd.M Kd.string _ _ _ t275 [.string t275] from rfl) (Reps.one (show Kd.M Kd.string _ _ _ t276 [.string t276] from rfl) (Reps.one (show Kd.M Kd.string _ _ _ (rdOf ByteArray.empty t269 3) [.string (rdOf ByteArray.empty t269 3)] from rfl) (Reps.one (show Kd.M Kd.string _ _ _ (rdOf ByteArray.empty t269 5) [.string (rdOf ByteArray.empty t269 5)] from rfl) (Reps.none _ _))))))
         intro v281 w89 ho90 hb hg_ hnew_
         have HS0_ := (hb.cell (World.block_lt_of_cell? _ _ (hHeld.1))).trans (hHeld.1)
         have HS1_ := (hb.cell (World.block_lt_of_cell? _ _ (hHeld.2))).trans (hHeld.2)
         clear hg_ hnew_
         (first | rw [← Ny280.out] at ho90 | (simp only [Int.reduceToNat] at ho90; rw [← Ny280.out] at ho90))
         have HO282 := Aside0.mk (Kd.R_lower (Kd.R_new' ho90 (Kd.R_lt (upR HO_4.out))) (below_size (bW HB)))
         replace HO_4 := Aside0.mk (Kd.R_elder' (upR HO_4.out) (Kd.R_base ho90) hb)
         replace BK268 := uK BK268 hb
         replace HB := uB HB hb
         clear hb ho90
         obtain ⟨Ao91, co91, eo91⟩ := Kd.R_slice HO282.out
         (first | subst eo91 | (injection eo91 with f1_ f2_ f3_; have f4_ := f1_.symm; have f5_ := f3_.symm; clear f1_ f2_ f3_; subst f4_; subst f5_))
         refine hK.out _ _ ⟨HS0_, HS1_⟩ (fun hHeld => ?_)
         clear hK K
         refine nA ?_ (some 44)
         refine oA 9 (some 45) HT_ fun K hK => ?_
         refine goes_ Tryz.func25 (by kernel_rfl) rfl #[.slice Ao91 y280.length co91] (by rfl) rfl rfl argsB ?_
         with_reducible refine (impl_parseInts.calls kj4 _ _ y280 t283 false _ ?side1 ?side2 A18.out (TabW.up2 hTW HB.out)).mono ?_
         (case side1 => repeat (first | exact (Kd.R_reads' HO282.out).2.2 | (with_reducible refine Kd.C_alloc ?_ _) | (with_reducible refine Kd.C_drewN ?_ _) | (with_reducible refine Kd.C_drew ?_)))
         (case side2 => exact (Kd.R_reads' HO282.out).2.1)
         rintro e w92 ⟨v285, rfl, ho0, hb⟩
         have HS0_ := (hb.cell (World.block_lt_of_cell? _ _ (hHeld.1))).trans (hHeld.1)
         have HS1_ := (hb.cell (World.block_lt_of_cell? _ _ (hHeld.2))).trans (hHeld.2)
         refine ⟨_, rfl, ?_⟩
         have HO286 := Aside0.mk (Kd.R_lower ho0 (below_size (bW HB)))
         replace HO_4 := uR HO_4 hb
         replace HO282 := uR HO282 hb
         replace BK268 := uK BK268 hb
         replace HB := uB HB hb
         (try clear hb)
         (try clear hk)
         (try clear ho0)
         refine hK.out _ _ ⟨HS0_, HS1_⟩ (fun hHeld => ?_)
         clear hK K
         refine nA ?_ (some 45)
         refine pA 10 35 HT_ ?_
         refine pA 11 46 HT_ ?_
         refine pA 12 47 HT_ ?_
         refine pA 13 9 HT_ ?_
         refine pA 14 10 HT_ ?_
         refine done_ (done_of HT_.out (by kernel_rfl)) ?_
         have ⟨hcz93_0, hcz93_1, hcz93_2, hcz93_3, hcz93_4, hfz93_0⟩ := cz5 BK268
         try go_wp2
         refine bodyPost_ret (results_ct rfl _ _ gb268 25 #[.int .i64 0, .int .i64 0, .int .i64 0, .int .i64 0, .int .i64 0] (0, 0) _ rfl (by exact pW BK268) Tryz.underlying25 rfl (by kernel_rfl)) rfl ?_
         exact ⟨eB, (bW HB)⟩
       ·rw [if_neg c17] at H
        exact absurd H (by simp)
      ·rw [if_neg c16] at H
       exact absurd H (by simp)
     ·rw [if_neg c14] at H
      exact absurd H (by simp)
 ·rw [if_neg c3] at H
  exact absurd H (by simp)

end Go.Proofs.YtmeaacbnjpgepaaGreatDoor.QFnTripLists
