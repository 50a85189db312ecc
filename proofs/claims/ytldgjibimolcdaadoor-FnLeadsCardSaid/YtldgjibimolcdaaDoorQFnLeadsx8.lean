/- Contracts of Go functions that FnLeads reaches: the call computes what the plain function says. No condition. -/
import Derived.Test.YtldgjibimolcdaaDoorQFnLeadsx0
import Derived.Test.YtldgjibimolcdaaDoorQFnLeadsx3
import Derived.Test.YtldgjibimolcdaaDoorQFnLeadsx4
import Derived.Test.YtldgjibimolcdaaDoorQFnLeadsx6
import Derived.Test.YtldgjibimolcdaaDoorQFnLeadsx7
namespace Go.Proofs.YtldgjibimolcdaaDoor.QFnLeads
open Go.RowKit Go.Proofs.YtldgjibimolcdaaDoorW.PrintWords Go.Proofs.YtldgjibimolcdaaDoorW.PrintLast Go.Proofs.YtldgjibimolcdaaDoorW.PrintMore
attribute [local go_sem] max2_int min2_int max_two min_two max_three min_three max_four min_four   -- for this text's walks alone
set_option linter.unusedVariables false
set_option linter.unusedSimpArgs false

/-! ### impl_ParseLead: function 10 -/
theorem far5_ {W : World} {g : Nat} {a : Addr} {v : Value} (h : W.cell? a = some v) (hne : a.block ≠ g) {o0 o1 o2 o3 o4 : Nat} {u0 u1 u2 u3 u4 : Value} : (((((W.setCell ⟨g, o0, none⟩ u0).setCell ⟨g, o1, none⟩ u1).setCell ⟨g, o2, none⟩ u2).setCell ⟨g, o3, none⟩ u3).setCell ⟨g, o4, none⟩ u4).cell? a = some v := by
 rw [cell_far (p := ⟨g, o4, none⟩) hne, cell_far (p := ⟨g, o3, none⟩) hne, cell_far (p := ⟨g, o2, none⟩) hne, cell_far (p := ⟨g, o1, none⟩) hne, cell_far (p := ⟨g, o0, none⟩) hne]
 exact h
def impl_ParseLead.j0 : Nat → ByteArray → List Int → Int → Bool → Option (Int × Int × Int × Int × Int × Bool)
 | 0, _, _, _, _ => none
 | k + 1, x0, x5, x7, x43 => if x43 = true then (some (0, 0, 0, 0, 0, false)) else (if 0 < (x5.length : Int) then (if 1 < (x5.length : Int) then (if 2 < (x5.length : Int) then (if 3 < (x5.length : Int) then ((impl_IsLead.f (rd x5 0) (rd x5 1) (rd x5 2) (rd x5 3) x7).bind fun t206 => (if t206 = true then ((impl_leadText.f (rd x5 0) (rd x5 1) (rd x5 2) (rd x5 3) x7).bind fun t207 => (if t207.toList = x0.toList then (some (rd x5 0, rd x5 1, rd x5 2, rd x5 3, x7, true)) else (some (0, 0, 0, 0, 0, false)))) else (some (0, 0, 0, 0, 0, false)))) else (none)) else (none)) else (none)) else (none))
def impl_ParseLead.f (k : Nat) (a0 : ByteArray) : Option (Int × Int × Int × Int × Int × Bool) := (strings_Split.f a0 (⟨#[32]⟩ : ByteArray)).bind fun t184 => (if (t184.length : Int) = 9 then (if 1 < (t184.length : Int) then (if 3 < (t184.length : Int) then ((strings_TrimSuffix.f (rdOf ByteArray.empty t184 3) (⟨#[58]⟩ : ByteArray)).bind fun t189 => (if 5 < (t184.length : Int) then (if 7 < (t184.length : Int) then ((impl_parseInts.f k (([rdOf ByteArray.empty t184 1, t189, rdOf ByteArray.empty t184 5, rdOf ByteArray.empty t184 7] : List ByteArray))).bind fun bt195 => (if 8 < (t184.length : Int) then ((impl_xState.f (rdOf ByteArray.empty t184 8)).bind fun t200 => (if bt195.2 = true then (impl_ParseLead.j0 k a0 bt195.1 t200 (decide (t200 < 0))) else (impl_ParseLead.j0 k a0 bt195.1 t200 true))) else (none))) else (none)) else (none))) else (none)) else (none)) else (some (0, 0, 0, 0, 0, false)))
theorem impl_ParseLead.mono_l : ∀ k, (∀ y0 y1 y2 y3, LeO (impl_ParseLead.j0 k y0 y1 y2 y3) (impl_ParseLead.j0 (k + 1) y0 y1 y2 y3))
 | 0 => fun _ _ _ _ r h => by simp [impl_ParseLead.j0] at h
 | k + 1 => by
  have ih0 := impl_ParseLead.mono_l k
  ·intro y0 y1 y2 y3
   unfold impl_ParseLead.j0
   repeat' with_reducible first | apply ih0 | apply impl_parseInts.mono | exact LeO.refl _ | exact LeO.none _ | refine LeO.ite ?_ ?_ | refine LeO.bind ?_ (fun _ => ?_)
theorem impl_ParseLead.mono : ∀ a0 k, LeO (impl_ParseLead.f k a0) (impl_ParseLead.f (k + 1) a0) := by
 intro a0 k
 have ih0 := impl_ParseLead.mono_l k
 unfold impl_ParseLead.f
 repeat' with_reducible first | apply ih0 | apply impl_parseInts.mono | exact LeO.refl _ | exact LeO.none _ | refine LeO.ite ?_ ?_ | refine LeO.bind ?_ (fun _ => ?_)
def impl_ParseLead.T4 : Bool × List (List Nat × List Nat) := (true, [([], []), ([0], [0]), ([1], [1]), ([], []), ([3], [3]), ([4], [4]), ([5], [5]), ([], []), ([7], [7]), ([8], [8]), ([], []), ([10], [10]), ([11], [11]), ([2, 6, 9, 12], [2, 6, 9, 12]), ([13, 6], [13]), ([14], [14]), ([15], [15]), ([15], [15]), ([16, 14, 0, 1, 2, 3, 4, 5, 6, 7, 8, 9, 10, 11, 12, 13, 14, 15, 16], [16]), ([17, 18, 0, 1, 2, 3, 4, 5, 6, 7, 8, 9, 10, 11, 12, 13, 14, 15, 16, 17, 18], [17])])
def impl_ParseLead.B4 : List Nat := [0, 1, 3, 0, 8, 24, 56, 0, 128, 384, 0, 1024, 3072, 8191, 16383, 32767, 65535, 65535, 131071, 524287]
theorem impl_ParseLead.tab4 : rtab .any (opsOf Tryd.f10 4) = impl_ParseLead.T4 := by kernel_rfl
theorem impl_ParseLead.bits4 : waitsOk impl_ParseLead.T4.2 impl_ParseLead.B4 = true := by kernel_rfl
def impl_ParseLead.T8 : Bool × List (List Nat × List Nat) := (true, [([], []), ([0], [0]), ([1], [1]), ([], []), ([3], [3]), ([4], [4]), ([], []), ([6], [6]), ([7], [7]), ([], []), ([9], [9]), ([10], [10]), ([], []), ([2, 5, 8, 11, 12], [2, 5, 8, 11, 12]), ([], []), ([14, 13, 0, 1, 2, 3, 4, 5, 6, 7, 8, 9, 10, 11, 12, 13, 14], [13, 14])])
def impl_ParseLead.B8 : List Nat := [0, 1, 3, 0, 8, 24, 0, 64, 192, 0, 512, 1536, 0, 8191, 0, 32767]
theorem impl_ParseLead.tab8 : rtab .any (opsOf Tryd.f10 8) = impl_ParseLead.T8 := by kernel_rfl
theorem impl_ParseLead.bits8 : waitsOk impl_ParseLead.T8.2 impl_ParseLead.B8 = true := by kernel_rfl
set_option maxHeartbeats 8000000 in
set_option maxRecDepth 100000 in
theorem impl_ParseLead.calls (k : Nat) (a0 : ByteArray) (r1 r2 r3 r4 r5 : Int) (r6 : Bool) (w : World) (h : impl_ParseLead.f k a0 = some (r1, r2, r3, r4, r5, r6)) (hTW : TabW w) :
  Calls Tryd.prog 10 #[.string a0] w fun e w' => e = .returned (.tuple #[.agg #[.int .i64 r1, .int .i64 r2, .int .i64 r3, .int .i64 r4, .int .i64 r5], .bool r6]) ∧ Below w.heap.size w w' := by
 have hu26 := Tryd.underlying26
 have HB := Aside0.mk (Below.refl w.heap.size w)
 have H := h
 clear h
 unfold impl_ParseLead.f at H
 replace H := bA H
 obtain ⟨t184, A2, H⟩ := H
 replace H := ifI H
 rcases H with ⟨H, -, c3b0, c3b1⟩ | ⟨H, c3, c3b0, c3b1⟩
 ·by_cases c4 : 1 < (t184.length : Int)
  ·rw [if_pos c4] at H
   have c4b0 : decide (1 < (t184.length : Int)) = true := decide_eq_true c4
   have c4b1 : decide (1 < t184.length) = true := decide_eq_true (by omega)
   clear c4
   by_cases c5 : 3 < (t184.length : Int)
   ·rw [if_pos c5] at H
    have c5b0 : decide (3 < (t184.length : Int)) = true := decide_eq_true c5
    have c5b1 : decide (3 < t184.length) = true := decide_eq_true (by omega)
    clear c5
    replace H := bA H
    obtain ⟨t189, A6, H⟩ := H
    by_cases c7 : 5 < (t184.length : Int)
    ·rw [if_pos c7] at H
     have c7b0 : decide (5 < (t184.length : Int)) = true := decide_eq_true c7
     have c7b1 : decide (5 < t184.length) = true := decide_eq_true (by omega)
     clear c7
     by_cases c8 : 7 < (t184.length : Int)
     ·rw [if_pos c8] at H
      have c8b0 : decide (7 < (t184.length : Int)) = true := decide_eq_true c8
      have c8b1 : decide (7 < t184.length) = true := decide_eq_true (by omega)
      clear c8
      obtain ⟨y192, hy192⟩ : ∃ y_ : List ByteArray, y_ = (([rdOf ByteArray.empty t184 1, t189, rdOf ByteArray.empty t184 5, rdOf ByteArray.empty t184 7] : List ByteArray)) := ⟨_, rfl⟩
      replace H : ((impl_parseInts.f k y192).bind fun bt195 => (if 8 < (t184.length : Int) then ((impl_xState.f (rdOf ByteArray.empty t184 8)).bind fun t200 => (if bt195.2 = true then (impl_ParseLead.j0 k a0 bt195.1 t200 (decide (t200 < 0))) else (impl_ParseLead.j0 k a0 bt195.1 t200 true))) else (none))) = some (r1, r2, r3, r4, r5, r6) := by first | (rw [hy192]; with_reducible exact H) | (have H2_ := (Option.bind_some _ _).symm.trans H; rw [hy192]; with_reducible exact H2_) | (have H2_ := (Option.bind_some _ _).symm.trans H; with_reducible exact H2_) | with_reducible exact H | (rw [hy192]; exact H) | exact H
      have Ny192 := Aside0.mk hy192
      clear hy192
      replace H := Option.bind_eq_some_iff.mp H
      obtain ⟨⟨t195, t196⟩, A90, H⟩ := H
      replace H : (if 8 < (t184.length : Int) then ((impl_xState.f (rdOf ByteArray.empty t184 8)).bind fun t200 => (if t196 = true then (impl_ParseLead.j0 k a0 t195 t200 (decide (t200 < 0))) else (impl_ParseLead.j0 k a0 t195 t200 true))) else (none)) = some (r1, r2, r3, r4, r5, r6) := H
      have A9 := Aside0.mk A90
      clear A90
      by_cases c10 : 8 < (t184.length : Int)
      ·rw [if_pos c10] at H
       have c10b0 : decide (8 < (t184.length : Int)) = true := decide_eq_true c10
       have c10b1 : decide (8 < t184.length) = true := decide_eq_true (by omega)
       clear c10
       replace H := bA H
       obtain ⟨t200, A11, H⟩ := H
       have HC12 := Aside0.mk H
       clear H
       go_enter Tryd.func10, Tryd.ntmps10
       try go_wp2_with (first | ((with_reducible refine gD 2 ?_); refine bxE 2 26 #[.int .i64 0, .int .i64 0, .int .i64 0, .int .i64 0, .int .i64 0] fun gb183 w13 hg hbox hb => ?_; have BK183 := Aside0.mk hbox; have GE183 := gB HB hg; replace HB := uB HB hb; clear hb hbox hg) | ((with_reducible refine gate_callee (f := 29) rfl ?_); refine goesL_ (some 10) rfl rfl Tryd.func29 (by kernel_rfl) rfl #[.string a0, .string (⟨#[32]⟩ : ByteArray)] rfl argsB ?_; (with_reducible refine (strings_Split.calls a0 (⟨#[32]⟩ : ByteArray) t184 _ A2.out (TabW.up2 hTW HB.out)).mono ?_); rintro e w14 ⟨v185, rfl, ho0, hb⟩; refine ⟨_, rfl, ?_⟩; have HO186 := Aside0.mk (Kd.R_lower ho0 (below_size (bW HB))); replace BK183 := uK BK183 hb; replace HB := uB HB hb; (try clear hb); (try clear hk); (try clear ho0); obtain ⟨Ao15, co15, eo15⟩ := Kd.R_slice HO186.out; subst eo15))
       replace HO186 := Aside0.mk (Kd.R_drew HO186.out)
       replace BK183 := dK BK183
       replace HB := Aside0.mk (below_drew1 HB.out)
       have p187 : 0 ≤ (1 : Int) := (by omega)
       have q187 : 1 < (t184.length : Int) := of_decide_eq_true asmB
       obtain ⟨ad187, e187, hx187_0⟩ := Kd.at_string (Kd.R_reads' HO186.out).2.2 1 p187 q187
       cases e187
       (try simp only [show (1 : Int).toNat = 1 from rfl, Nat.reduceMul, Nat.reduceEqDiff, Go.Addr.add, ↓reduceIte] at hx187_0)
       have qi187 : (1 < t184.length) = True := eq_true (by omega)
       (try rw [show ((1 : Int)).toNat = 1 from rfl] at hx187_0)
       replace p187 := eq_true p187
       replace q187 := eq_true q187
       have p188 : 0 ≤ (3 : Int) := (by omega)
       have q188 : 3 < (t184.length : Int) := of_decide_eq_true asmB
       obtain ⟨ad188, e188, hx188_0⟩ := Kd.at_string (Kd.R_reads' HO186.out).2.2 3 p188 q188
       obtain rfl : ad187 = ad188 := (by injection e188)
       (try simp only [show (3 : Int).toNat = 3 from rfl, Nat.reduceMul, Nat.reduceEqDiff, Go.Addr.add, ↓reduceIte] at hx188_0)
       have qi188 : (3 < t184.length) = True := eq_true (by omega)
       (try rw [show ((3 : Int)).toNat = 3 from rfl] at hx188_0)
       replace p188 := eq_true p188
       replace q188 := eq_true q188
       have p190 : 0 ≤ (5 : Int) := (by omega)
       have q190 : 5 < (t184.length : Int) := of_decide_eq_true asmB
       obtain ⟨ad190, e190, hx190_0⟩ := Kd.at_string (Kd.R_reads' HO186.out).2.2 5 p190 q190
       obtain rfl : ad187 = ad190 := (by injection e190)
       (try simp only [show (5 : Int).toNat = 5 from rfl, Nat.reduceMul, Nat.reduceEqDiff, Go.Addr.add, ↓reduceIte] at hx190_0)
       have qi190 : (5 < t184.length) = True := eq_true (by omega)
       (try rw [show ((5 : Int)).toNat = 5 from rfl] at hx190_0)
       replace p190 := eq_true p190
       replace q190 := eq_true q190
       have p191 : 0 ≤ (7 : Int) := (by omega)
       have q191 : 7 < (t184.length : Int) := of_decide_eq_true asmB
       obtain ⟨ad191, e191, hx191_0⟩ := Kd.at_string (Kd.R_reads' HO186.out).2.2 7 p191 q191
       obtain rfl : ad187 = ad191 := (by injection e191)
       (try simp only [show (7 : Int).toNat = 7 from rfl, Nat.reduceMul, Nat.reduceEqDiff, Go.Addr.add, ↓reduceIte] at hx191_0)
       have qi191 : (7 < t184.length) = True := eq_true (by omega)
       (try rw [show ((7 : Int)).toNat = 7 from rfl] at hx191_0)
       replace p191 := eq_true p191
       replace q191 := eq_true q191
       refine sA (n := 20) (S := fun w' => w'.cell? ⟨ad187.block, ad187.off + 1, none⟩ = some (.string (rdOf ByteArray.empty t184 1)) ∧ w'.cell? ⟨ad187.block, ad187.off + 3, none⟩ = some (.string (rdOf ByteArray.empty t184 3)) ∧ w'.cell? ⟨ad187.block, ad187.off + 5, none⟩ = some (.string (rdOf ByteArray.empty t184 5)) ∧ w'.cell? ⟨ad187.block, ad187.off + 7, none⟩ = some (.string (rdOf ByteArray.empty t184 7))) (ds := []) impl_ParseLead.tab4 impl_ParseLead.bits4 #[false, false, false, false, false, false, false, false, false, false, false, false, false, false, false, false, false, false, false, false] ⟨hx187_0, hx188_0, hx190_0, hx191_0⟩ fun hHeld HT_ HW_ => ?_
       generalize w14.drew = w16 at HO186 BK183 HB hx187_0 hx188_0 hx190_0 hx191_0 hHeld ⊢
       refine pA 0 16 HT_ ?_
       refine pA 1 17 HT_ ?_
       refine pA 3 19 HT_ ?_
       refine pA 4 20 HT_ ?_
       refine pA 7 23 HT_ ?_
       refine pA 8 24 HT_ ?_
       refine pA 10 26 HT_ ?_
       refine pA 11 27 HT_ ?_
       refine tA 2 18 HT_ HW_ hHeld ?_
       refine tA 5 21 HT_ HW_ hHeld ?_
       refine tA 9 25 HT_ HW_ hHeld ?_
       refine tA 12 28 HT_ HW_ hHeld ?_
       refine oA 6 (some 22) HT_ fun K hK => ?_
       refine rA Tryd.func31 (strings_TrimSuffix.calls (rdOf ByteArray.empty t184 3) (⟨#[58]⟩ : ByteArray) t189 _ A6.out) ?_
       rintro _ ⟨nd, rfl⟩
       refine hK.out _ _ ⟨hHeld.1, hHeld.2.1, hHeld.2.2.1, hHeld.2.2.2⟩ (fun hHeld => ?_)
       clear hK K
       refine nA ?_ (some 22)
       refine oA 13 (some 29) HT_ fun K hK => ?_
       refine Kd.R_lit_step Kd.string _ 9 ?hg (N := 29) ?hd (xs := ([rdOf ByteArray.empty t184 1, t189, rdOf ByteArray.empty t184 5, rdOf ByteArray.empty t184 7] : List ByteArray)) (inner := [.string (rdOf ByteArray.empty t184 1), .string t189, .string (rdOf ByteArray.empty t184 5), .string (rdOf ByteArray.empty t184 7)]) (ok := fun _ => True) (okp := fun _ => True) ?hr ?hp (fun _ hk => hk) trivial (Below.refl _ _) (Nat.le_refl _) (by simp) ?_; (case hd => rfl); (case hg => rfl); (case hr => first | (go_simp; done) | (go_simp; rfl)); (case hp => exact (Reps.one (show Kd.M Kd.string _ _ _ (rdOf ByteArray.empty t184 1) [.string (rdOf ByteArray.empty t184 1)] from rfl) (Reps.one (show Kd.M Kd.string _ _ _ t189 [.string t189] from rfl) (Reps.one (show Kd.M Kd.string _ _ _ (rdOf ByteArray.empty t184 5) [.string (rdOf ByteArray.empty t184 5)] from rfl) (Reps.one (show Kd.M Kd.string _ _ _ (rdOf ByteArray.empty t184 7) [.string (rdOf ByteArray.empty t184 7)] from rfl) (Reps.none _ _))))))
       intro v193 w17 ho18 hb hg_ hnew_
       have HS0_ := (hb.cell (World.block_lt_of_cell? _ _ (hHeld.1))).trans (hHeld.1)
       have HS1_ := (hb.cell (World.block_lt_of_cell? _ _ (hHeld.2.1))).trans (hHeld.2.1)
       have HS2_ := (hb.cell (World.block_lt_of_cell? _ _ (hHeld.2.2.1))).trans (hHeld.2.2.1)
       have HS3_ := (hb.cell (World.block_lt_of_cell? _ _ (hHeld.2.2.2))).trans (hHeld.2.2.2)
       clear hg_ hnew_
       (first | rw [← Ny192.out] at ho18 | (simp only [Int.reduceToNat] at ho18; rw [← Ny192.out] at ho18))
       have HO194 := Aside0.mk (Kd.R_lower (Kd.R_new' ho18 (Kd.R_lt (upR HO186.out))) (below_size (bW HB)))
       replace HO186 := Aside0.mk (Kd.R_elder' (upR HO186.out) (Kd.R_base ho18) hb)
       replace BK183 := uK BK183 hb
       replace HB := uB HB hb
       clear hb ho18
       obtain ⟨Ao19, co19, eo19⟩ := Kd.R_slice HO194.out
       (first | subst eo19 | (injection eo19 with f1_ f2_ f3_; have f4_ := f1_.symm; have f5_ := f3_.symm; clear f1_ f2_ f3_; subst f4_; subst f5_))
       refine hK.out _ _ ⟨HS0_, HS1_, HS2_, HS3_⟩ (fun hHeld => ?_)
       clear hK K
       refine nA ?_ (some 29)
       refine oA 14 (some 30) HT_ fun K hK => ?_
       refine goes_ Tryd.func30 (by kernel_rfl) rfl #[.slice Ao19 y192.length co19] (by rfl) rfl rfl argsB ?_
       with_reducible refine (impl_parseInts.calls k _ _ y192 t195 t196 _ ?side1 ?side2 A9.out (TabW.up2 hTW HB.out)).mono ?_
       (case side1 => repeat (first | exact (Kd.R_reads' HO194.out).2.2 | (with_reducible refine Kd.C_alloc ?_ _) | (with_reducible refine Kd.C_drewN ?_ _) | (with_reducible refine Kd.C_drew ?_)))
       (case side2 => exact (Kd.R_reads' HO194.out).2.1)
       rintro e w20 ⟨v197, rfl, ho0, hb⟩
       have HS0_ := (hb.cell (World.block_lt_of_cell? _ _ (hHeld.1))).trans (hHeld.1)
       have HS1_ := (hb.cell (World.block_lt_of_cell? _ _ (hHeld.2.1))).trans (hHeld.2.1)
       have HS2_ := (hb.cell (World.block_lt_of_cell? _ _ (hHeld.2.2.1))).trans (hHeld.2.2.1)
       have HS3_ := (hb.cell (World.block_lt_of_cell? _ _ (hHeld.2.2.2))).trans (hHeld.2.2.2)
       refine ⟨_, rfl, ?_⟩
       have HO198 := Aside0.mk (Kd.R_lower ho0 (below_size (bW HB)))
       replace HO186 := uR HO186 hb
       replace HO194 := uR HO194 hb
       replace BK183 := uK BK183 hb
       replace HB := uB HB hb
       (try clear hb)
       (try clear hk)
       (try clear ho0)
       refine hK.out _ _ ⟨HS0_, HS1_, HS2_, HS3_⟩ (fun hHeld => ?_)
       clear hK K
       refine nA ?_ (some 30)
       refine pA 15 15 HT_ ?_
       refine pA 16 31 HT_ ?_
       refine pA 17 32 HT_ ?_
       refine pA 18 5 HT_ ?_
       refine pA 19 6 HT_ ?_
       refine done_ (done_of HT_.out (by kernel_rfl)) ?_
       try go_wp2
       replace HO186 := Aside0.mk (Kd.R_drew HO186.out)
       replace HO194 := Aside0.mk (Kd.R_drew HO194.out)
       replace HO198 := Aside0.mk (Kd.R_drew HO198.out)
       replace BK183 := dK BK183
       replace HB := Aside0.mk (below_drew1 HB.out)
       have p199 : 0 ≤ (8 : Int) := (by omega)
       have q199 : 8 < (t184.length : Int) := of_decide_eq_true asmB
       obtain ⟨ad199, e199, hx199_0⟩ := Kd.at_string (Kd.R_reads' HO186.out).2.2 8 p199 q199
       obtain rfl : ad187 = ad199 := (by injection e199)
       (try simp only [show (8 : Int).toNat = 8 from rfl, Nat.reduceMul, Nat.reduceEqDiff, Go.Addr.add, ↓reduceIte] at hx199_0)
       have qi199 : (8 < t184.length) = True := eq_true (by omega)
       (try rw [show ((8 : Int)).toNat = 8 from rfl] at hx199_0)
       replace p199 := eq_true p199
       replace q199 := eq_true q199
       refine start_ (n := 6) (S := fun w' => w'.cell? ⟨ad187.block, ad187.off + 8, none⟩ = some (.string (rdOf ByteArray.empty t184 8))) (ds := []) #[false, false, false, false, false, false] (by kernel_rfl) rfl rfl (hx199_0) (fun hHeld => ?_)
       generalize w20.drew = w21 at HO186 HO194 HO198 BK183 HB hx199_0 hHeld ⊢
       refine pure_ (i := 0) (N := some 33) (v := ?_) (a' := ?_) #[true, false, false, false, false, false] rfl rfl (by kernel_rfl) (fun _ _ _ h => h) (Or.inl ⟨by rfl, ?_⟩) ?_ ?_
       rotate_left
       ·intro w'
        go_simp
        with_reducible rfl
       rotate_left
       ·simp only [Act.put, List.setIfInBounds_toArray, List.set_cons_zero, List.set_cons_succ, i64_w, i32_w]
        rfl
       refine pure_ (i := 1) (N := some 34) (v := ?_) (a' := ?_) #[true, true, false, false, false, false] rfl rfl (by kernel_rfl) (fun _ _ _ h => h) (Or.inl ⟨by rfl, ?_⟩) ?_ ?_
       rotate_left
       ·intro w'
        go_simp
        with_reducible rfl
       rotate_left
       ·simp only [Act.put, List.setIfInBounds_toArray, List.set_cons_zero, List.set_cons_succ, i64_w, i32_w]
        rfl
       refine pure_ (i := 2) (N := some 35) (v := ?_) (a' := ?_) #[true, true, true, false, false, false] rfl rfl (by kernel_rfl) (fun _ _ _ h => h) (Or.inl ⟨by rfl, ?_⟩) ?_ ?_
       rotate_left
       ·intro w'
        go_simp
        with_reducible rfl
       rotate_left
       ·simp only [Act.put, List.setIfInBounds_toArray, List.set_cons_zero, List.set_cons_succ, i64_w, i32_w]
        rfl
       refine take_ (i := 3) (N := some 36) (v := ?_) (a' := ?_) #[true, true, true, true, false, false] rfl rfl (by kernel_rfl) (fun _ _ _ h => h) (Or.inl ⟨by rfl, ?_⟩) hHeld ?_ ?_
       rotate_left
       ·intro w' s0
        go_simp
        with_reducible rfl
       rotate_left
       ·simp only [Act.put, List.setIfInBounds_toArray, List.set_cons_zero, List.set_cons_succ, i64_w, i32_w]
        rfl
       refine one_ (i := 4) (N := some 37) #[true, true, true, true, true, false] rfl rfl (by kernel_rfl) (by decide) (fun K hK => ?_)
       refine goes_ Tryd.func32 (by kernel_rfl) rfl #[.slice (some ⟨0, 0, none⟩) 4 4, .string (rdOf ByteArray.empty t184 8)] (by rfl) rfl rfl argsB ?_
       with_reducible refine (impl_xState.calls (rdOf ByteArray.empty t184 8) t200 _ A11.out (TabW.up2 hTW HB.out)).mono ?_
       rintro e w22 ⟨rfl, hb⟩
       have HS0_ := (hb.cell (World.block_lt_of_cell? _ _ (hHeld))).trans (hHeld)
       refine ⟨_, rfl, ?_⟩
       replace HO186 := uR HO186 hb
       replace HO194 := uR HO194 hb
       replace HO198 := uR HO198 hb
       replace BK183 := uK BK183 hb
       replace HB := uB HB hb
       (try clear hb)
       (try clear hk)
       refine hK.out _ _ (HS0_) (fun hHeld => ?_)
       clear hK K
       refine nA ?_ (some 37)
       refine pure_ (i := 5) (N := some 7) (v := ?_) (a' := ?_) #[true, true, true, true, true, true] rfl rfl (by kernel_rfl) (fun _ _ _ h => h) (Or.inl ⟨by rfl, ?_⟩) ?_ ?_
       rotate_left
       ·intro w'
        go_simp
        with_reducible rfl
       rotate_left
       ·simp only [Act.put, List.setIfInBounds_toArray, List.set_cons_zero, List.set_cons_succ, i64_w, i32_w]
        rfl
       refine done_ (by kernel_rfl) ?_
       go_upto_region 6 with (fail)
       go_cut [43] (fun v43 wc => ∃ (kq : Nat) (x43_11 : Bool), v43 = .bool x43_11 ∧ Aside0 (impl_ParseLead.j0 kq a0 t195 t200 x43_11 = some (r1, r2, r3, r4, r5, r6)) ∧ Aside0 (kq ≤ k) ∧ Aside0 (Kd.R (Kd.int .i64) 3 wc w.heap.size (fun _ => True) v197 t195) ∧ Aside0 (wc.heap[gb183]? = some (.cells #[.int .i64 0, .int .i64 0, .int .i64 0, .int .i64 0, .int .i64 0] 26 (0, 0))) ∧ Aside0 (Below w.heap.size w wc))
       case first =>
        have H := HC12.out
        clear HC12
        rcases Bool.eq_false_or_eq_true t196 with rfl | rfl
        ·replace H := iT rfl H
         have H' := Aside0.mk H
         clear H
         go_wp2
         go_meet
         case rel => exact ⟨_, (decide (t200 < 0)), rB, H', leB, ⟨upR HO198.out⟩, (aK BK183), (aB HB)⟩
        ·replace H := iF (by decide) H
         have H' := Aside0.mk H
         clear H
         go_wp2
         go_meet
         case rel => exact ⟨_, (true), rB, H', leB, ⟨upR HO198.out⟩, (aK BK183), (aB HB)⟩
       case rest =>
        clear HC12
        try clear c3
        try clear c3b0
        try clear c3b1
        try clear c4
        try clear c4b0
        try clear c4b1
        try clear c5
        try clear c5b0
        try clear c5b1
        try clear c7
        try clear c7b0
        try clear c7b1
        try clear c8
        try clear c8b0
        try clear c8b1
        try clear c10
        try clear c10b0
        try clear c10b1
        try clear hx187_0
        try clear hx188_0
        try clear hx190_0
        try clear hx191_0
        try clear hx199_0
        try clear p187
        try clear p188
        try clear p190
        try clear p191
        try clear p199
        try clear q187
        try clear q188
        try clear q190
        try clear q191
        try clear q199
        obtain ⟨kq, x43_11, rfl, HA, HJ11, HO_5, BK183, HB⟩ := hcut
        cases kq with
        | zero => exact absurd HA.out (by simp [impl_ParseLead.j0])
        | succ kj11 =>
         have H := HA.out
         clear HA
         simp only [impl_ParseLead.j0] at H
         rcases Bool.eq_false_or_eq_true x43_11 with rfl | rfl
         ·replace H := iT rfl H
          simp only [Option.some.injEq, Prod.mk.injEq] at H
          obtain ⟨rfl, rfl, rfl, rfl, rfl, rfl⟩ := H
          have ⟨hcz25_0, hcz25_1, hcz25_2, hcz25_3, hcz25_4, hfz25_0⟩ := cz5 BK183
          go_wp2
          refine bodyPost_ret (results_ct rfl _ _ gb183 26 #[.int .i64 0, .int .i64 0, .int .i64 0, .int .i64 0, .int .i64 0] (0, 0) _ rfl (by exact pW BK183) Tryd.underlying26 rfl (by kernel_rfl)) rfl ?_
          exact ⟨eB, (bW HB)⟩
         ·replace H := iF (by decide) H
          by_cases c26 : 0 < (t195.length : Int)
          ·rw [if_pos c26] at H
           have c26b0 : decide (0 < (t195.length : Int)) = true := decide_eq_true c26
           have c26b1 : decide (0 < t195.length) = true := decide_eq_true (by omega)
           clear c26
           by_cases c27 : 1 < (t195.length : Int)
           ·rw [if_pos c27] at H
            have c27b0 : decide (1 < (t195.length : Int)) = true := decide_eq_true c27
            have c27b1 : decide (1 < t195.length) = true := decide_eq_true (by omega)
            clear c27
            by_cases c28 : 2 < (t195.length : Int)
            ·rw [if_pos c28] at H
             have c28b0 : decide (2 < (t195.length : Int)) = true := decide_eq_true c28
             have c28b1 : decide (2 < t195.length) = true := decide_eq_true (by omega)
             clear c28
             by_cases c29 : 3 < (t195.length : Int)
             ·rw [if_pos c29] at H
              have c29b0 : decide (3 < (t195.length : Int)) = true := decide_eq_true c29
              have c29b1 : decide (3 < t195.length) = true := decide_eq_true (by omega)
              clear c29
              replace H := bA H
              obtain ⟨t206, A30, H⟩ := H
              rcases Bool.eq_false_or_eq_true t206 with rfl | rfl
              ·replace H := iT rfl H
               replace H := bA H
               obtain ⟨t207, A32, H⟩ := H
               replace H := ifI H
               rcases H with ⟨H, -, c33b0, c33b1⟩ | ⟨H, c33, c33b0, c33b1⟩
               ·simp only [Option.some.injEq, Prod.mk.injEq] at H
                obtain ⟨rfl, rfl, rfl, rfl, rfl, rfl⟩ := H
                try go_wp2
                replace HO_5 := Aside0.mk (Kd.R_drew HO_5.out)
                replace BK183 := dK BK183
                replace HB := Aside0.mk (below_drew1 HB.out)
                obtain ⟨Ao35, co35, eo35⟩ := Kd.R_slice HO_5.out
                (first | subst eo35 | (injection eo35 with f1_ f2_ f3_; have f4_ := f1_.symm; have f5_ := f3_.symm; clear f1_ f2_ f3_; subst f4_; subst f5_))
                have p201 : 0 ≤ (0 : Int) := (by omega)
                have q201 : 0 < (t195.length : Int) := of_decide_eq_true asmB
                obtain ⟨ad201, e201, hx201_0⟩ := Kd.at_int (Kd.R_reads' HO_5.out).2.2 0 p201 q201
                cases e201
                have qi201 : (0 < t195.length) = True := eq_true (by omega)
                (try rw [show ((0 : Int)).toNat = 0 from rfl] at hx201_0)
                (try rw [Addr.add_zero'] at hx201_0)
                replace p201 := eq_true p201
                replace q201 := eq_true q201
                have p202 : 0 ≤ (1 : Int) := (by omega)
                have q202 : 1 < (t195.length : Int) := of_decide_eq_true asmB
                obtain ⟨ad202, e202, hx202_0⟩ := Kd.at_int (Kd.R_reads' HO_5.out).2.2 1 p202 q202
                obtain rfl : ad201 = ad202 := (by injection e202)
                (try simp only [show (1 : Int).toNat = 1 from rfl, Nat.reduceMul, Nat.reduceEqDiff, Go.Addr.add, ↓reduceIte] at hx202_0)
                have qi202 : (1 < t195.length) = True := eq_true (by omega)
                (try rw [show ((1 : Int)).toNat = 1 from rfl] at hx202_0)
                replace p202 := eq_true p202
                replace q202 := eq_true q202
                have p203 : 0 ≤ (2 : Int) := (by omega)
                have q203 : 2 < (t195.length : Int) := of_decide_eq_true asmB
                obtain ⟨ad203, e203, hx203_0⟩ := Kd.at_int (Kd.R_reads' HO_5.out).2.2 2 p203 q203
                obtain rfl : ad201 = ad203 := (by injection e203)
                (try simp only [show (2 : Int).toNat = 2 from rfl, Nat.reduceMul, Nat.reduceEqDiff, Go.Addr.add, ↓reduceIte] at hx203_0)
                have qi203 : (2 < t195.length) = True := eq_true (by omega)
                (try rw [show ((2 : Int)).toNat = 2 from rfl] at hx203_0)
                replace p203 := eq_true p203
                replace q203 := eq_true q203
                have p204 : 0 ≤ (3 : Int) := (by omega)
                have q204 : 3 < (t195.length : Int) := of_decide_eq_true asmB
                obtain ⟨ad204, e204, hx204_0⟩ := Kd.at_int (Kd.R_reads' HO_5.out).2.2 3 p204 q204
                obtain rfl : ad201 = ad204 := (by injection e204)
                (try simp only [show (3 : Int).toNat = 3 from rfl, Nat.reduceMul, Nat.reduceEqDiff, Go.Addr.add, ↓reduceIte] at hx204_0)
                have qi204 : (3 < t195.length) = True := eq_true (by omega)
                (try rw [show ((3 : Int)).toNat = 3 from rfl] at hx204_0)
                replace p204 := eq_true p204
                replace q204 := eq_true q204
                refine sA (n := 16) (S := fun w' => w'.cell? ad201 = some (.int .i64 (rd t195 0)) ∧ w'.cell? ⟨ad201.block, ad201.off + 1, none⟩ = some (.int .i64 (rd t195 1)) ∧ w'.cell? ⟨ad201.block, ad201.off + 2, none⟩ = some (.int .i64 (rd t195 2)) ∧ w'.cell? ⟨ad201.block, ad201.off + 3, none⟩ = some (.int .i64 (rd t195 3))) (ds := []) impl_ParseLead.tab8 impl_ParseLead.bits8 #[false, false, false, false, false, false, false, false, false, false, false, false, false, false, false, false] ⟨hx201_0, hx202_0, hx203_0, hx204_0⟩ fun hHeld HT_ HW_ => ?_
                generalize wc.drew = w34 at HO_5 BK183 HB hx201_0 hx202_0 hx203_0 hx204_0 hHeld ⊢
                refine pA 0 45 HT_ ?_
                refine pA 1 46 HT_ ?_
                refine pA 3 48 HT_ ?_
                refine pA 4 49 HT_ ?_
                refine pA 6 51 HT_ ?_
                refine pA 7 52 HT_ ?_
                refine pA 9 54 HT_ ?_
                refine pA 10 55 HT_ ?_
                refine pA 12 57 HT_ ?_
                refine tA 2 47 HT_ HW_ hHeld ?_
                refine tA 5 50 HT_ HW_ hHeld ?_
                refine tA 8 53 HT_ HW_ hHeld ?_
                refine tA 11 56 HT_ HW_ hHeld ?_
                refine pA 13 58 HT_ ?_
                refine oA 14 (some 8) HT_ fun K hK => ?_
                refine box_step ?hg (N := 8) ?hd (cs := #[.int .i64 0, .int .i64 0, .int .i64 0, .int .i64 0, .int .i64 0]) (t := 26) ?hr ?_; (case hd => rfl); (case hg => rfl); (case hr => first | (go_simp; done) | (go_simp; rfl))
                intro gb205 hg w36 hbox hb
                have HS0_ := (hb.cell (World.block_lt_of_cell? _ _ (hHeld.1))).trans (hHeld.1)
                have HS1_ := (hb.cell (World.block_lt_of_cell? _ _ (hHeld.2.1))).trans (hHeld.2.1)
                have HS2_ := (hb.cell (World.block_lt_of_cell? _ _ (hHeld.2.2.1))).trans (hHeld.2.2.1)
                have HS3_ := (hb.cell (World.block_lt_of_cell? _ _ (hHeld.2.2.2))).trans (hHeld.2.2.2)
                have BK205 := Aside0.mk hbox
                have GE205 := gB HB hg
                have ⟨NB183_205, NB205_183⟩ := nB BK183 hg
                replace HO_5 := uR HO_5 hb
                replace BK183 := uK BK183 hb
                replace HB := uB HB hb
                clear hb hbox hg
                refine hK.out _ _ ⟨HS0_, HS1_, HS2_, HS3_⟩ (fun hHeld => ?_)
                clear hK K
                refine nA ?_ (some 8)
                refine oA 15 none HT_ fun K hK => ?_
                have hs37 := ci BK205.out 0 0 rfl
                have hfs37 := blk_frozen BK205.out 0
                have hns37_0 := NB183_205.out
                have hms37_0 := NB205_183.out
                have hs38 := ci BK205.out 1 0 rfl
                have hfs38 := blk_frozen BK205.out 1
                have hs39 := ci BK205.out 2 0 rfl
                have hfs39 := blk_frozen BK205.out 2
                have hs40 := ci BK205.out 3 0 rfl
                have hfs40 := blk_frozen BK205.out 3
                have hs41 := ci BK205.out 4 0 rfl
                have hfs41 := blk_frozen BK205.out 4
                refine skip_ (w1 := ?_) (by rfl) rfl ?_ ?_
                rotate_left
                ·go_simp
                 rfl
                have hne_ : ad201.block ≠ gb205 := Kd.own_blk (Kd.R_ne HO_5.out BK205.out (by decide))
                refine hK.out _ _ ?held_ (fun hHeld => ?_)
                case held_ => exact ⟨far5_ (hHeld.1) hne_, far5_ (hHeld.2.1) hne_, far5_ (hHeld.2.2.1) hne_, far5_ (hHeld.2.2.2) hne_⟩
                clear hK K
                refine done_ (done_of HT_.out (by kernel_rfl)) ?_
                have hcz43_0 := ci BK205.out 0 0 rfl
                have hcz43_1 := ci BK205.out 1 0 rfl
                have hcz43_2 := ci BK205.out 2 0 rfl
                have hcz43_3 := ci BK205.out 3 0 rfl
                have hcz43_4 := ci BK205.out 4 0 rfl
                have hfz43_0 := fun j_ : Nat => blk_frozen BK205.out j_
                try go_wp2_with (first | ((with_reducible refine gC 14 ?_); refine lA (some 60) Tryd.func14 (impl_IsLead.calls (rd t195 0) (rd t195 1) (rd t195 2) (rd t195 3) t200 true _ A30.out) ?_; intro w44 hb; replace HO_5 := Aside0.mk (Kd.R_below (by (with_reducible repeat (first | apply Kd.R_alloc | apply Kd.R_drewN | apply Kd.R_drew)); exact (Kd.R_mono (Kd.R_far (p := ⟨gb205, 4, none⟩) (Kd.R_far (p := ⟨gb205, 3, none⟩) (Kd.R_far (p := ⟨gb205, 2, none⟩) (Kd.R_far (p := ⟨gb205, 1, none⟩) (Kd.R_far (p := ⟨gb205, 0, none⟩) (Kd.R_types HO_5.out BK205.out (by decide)) (fun _ hk => hk.2) (.int .i64 (rd t195 0))) (fun _ hk => hk.2) (.int .i64 (rd t195 1))) (fun _ hk => hk.2) (.int .i64 (rd t195 2))) (fun _ hk => hk.2) (.int .i64 (rd t195 3))) (fun _ hk => hk.2) (.int .i64 t200)) (fun _ h_ => h_.1))) hb); replace BK183 := uQ BK183 hb #[.int .i64 0, .int .i64 0, .int .i64 0, .int .i64 0, .int .i64 0]; replace BK205 := uQ BK205 hb #[.int .i64 (rd t195 0), .int .i64 (rd t195 1), .int .i64 (rd t195 2), .int .i64 (rd t195 3), .int .i64 t200]; replace HB := uB HB hb; (try clear hb); (try clear hk); have hcz45_0 := ci BK205.out 0 (rd t195 0) rfl; have hcz45_1 := ci BK205.out 1 (rd t195 1) rfl; have hcz45_2 := ci BK205.out 2 (rd t195 2) rfl; have hcz45_3 := ci BK205.out 3 (rd t195 3) rfl; have hcz45_4 := ci BK205.out 4 t200 rfl; have hfz45_0 := fun j_ : Nat => blk_frozen BK205.out j_) | (go_at_call 26; (with_reducible refine (impl_leadText.calls (rd t195 0) (rd t195 1) (rd t195 2) (rd t195 3) t200 t207 _ A32.out (TabW.up2 hTW HB.out)).mono ?_); rintro e w46 ⟨rfl, hb⟩; replace HO_5 := uR HO_5 hb; replace BK183 := uK BK183 hb; replace BK205 := uK BK205 hb; replace HB := uB HB hb; (try clear hb); (try clear hk); have hcz47_0 := ci BK205.out 0 (rd t195 0) rfl; have hcz47_1 := ci BK205.out 1 (rd t195 1) rfl; have hcz47_2 := ci BK205.out 2 (rd t195 2) rfl; have hcz47_3 := ci BK205.out 3 (rd t195 3) rfl; have hcz47_4 := ci BK205.out 4 t200 rfl; have hfz47_0 := fun j_ : Nat => blk_frozen BK205.out j_; have ⟨hcz48_0, hcz48_1, hcz48_2, hcz48_3, hcz48_4, hfz48_0⟩ := cz5 BK183))
                refine bodyPost_ret (results_ct rfl _ _ gb183 26 #[.int .i64 (rd t195 0), .int .i64 (rd t195 1), .int .i64 (rd t195 2), .int .i64 (rd t195 3), .int .i64 t200] (0, 0) _ rfl (by exact pW BK183) Tryd.underlying26 rfl (by kernel_rfl)) rfl ?_
                exact ⟨eB, (bW HB)⟩
               ·simp only [Option.some.injEq, Prod.mk.injEq] at H
                obtain ⟨rfl, rfl, rfl, rfl, rfl, rfl⟩ := H
                try go_wp2
                replace HO_5 := Aside0.mk (Kd.R_drew HO_5.out)
                replace BK183 := dK BK183
                replace HB := Aside0.mk (below_drew1 HB.out)
                obtain ⟨Ao50, co50, eo50⟩ := Kd.R_slice HO_5.out
                (first | subst eo50 | (injection eo50 with f1_ f2_ f3_; have f4_ := f1_.symm; have f5_ := f3_.symm; clear f1_ f2_ f3_; subst f4_; subst f5_))
                have p201 : 0 ≤ (0 : Int) := (by omega)
                have q201 : 0 < (t195.length : Int) := of_decide_eq_true asmB
                obtain ⟨ad201, e201, hx201_0⟩ := Kd.at_int (Kd.R_reads' HO_5.out).2.2 0 p201 q201
                cases e201
                have qi201 : (0 < t195.length) = True := eq_true (by omega)
                (try rw [show ((0 : Int)).toNat = 0 from rfl] at hx201_0)
                (try rw [Addr.add_zero'] at hx201_0)
                replace p201 := eq_true p201
                replace q201 := eq_true q201
                have p202 : 0 ≤ (1 : Int) := (by omega)
                have q202 : 1 < (t195.length : Int) := of_decide_eq_true asmB
                obtain ⟨ad202, e202, hx202_0⟩ := Kd.at_int (Kd.R_reads' HO_5.out).2.2 1 p202 q202
                obtain rfl : ad201 = ad202 := (by injection e202)
                (try simp only [show (1 : Int).toNat = 1 from rfl, Nat.reduceMul, Nat.reduceEqDiff, Go.Addr.add, ↓reduceIte] at hx202_0)
                have qi202 : (1 < t195.length) = True := eq_true (by omega)
                (try rw [show ((1 : Int)).toNat = 1 from rfl] at hx202_0)
                replace p202 := eq_true p202
                replace q202 := eq_true q202
                have p203 : 0 ≤ (2 : Int) := (by omega)
                have q203 : 2 < (t195.length : Int) := of_decide_eq_true asmB
                obtain ⟨ad203, e203, hx203_0⟩ := Kd.at_int (Kd.R_reads' HO_5.out).2.2 2 p203 q203
                obtain rfl : ad201 = ad203 := (by injection e203)
                (try simp only [show (2 : Int).toNat = 2 from rfl, Nat.reduceMul, Nat.reduceEqDiff, Go.Addr.add, ↓reduceIte] at hx203_0)
                have qi203 : (2 < t195.length) = True := eq_true (by omega)
                (try rw [show ((2 : Int)).toNat = 2 from rfl] at hx203_0)
                replace p203 := eq_true p203
                replace q203 := eq_true q203
                have p204 : 0 ≤ (3 : Int) := (by omega)
                have q204 : 3 < (t195.length : Int) := of_decide_eq_true asmB
                obtain ⟨ad204, e204, hx204_0⟩ := Kd.at_int (Kd.R_reads' HO_5.out).2.2 3 p204 q204
                obtain rfl : ad201 = ad204 := (by injection e204)
                (try simp only [show (3 : Int).toNat = 3 from rfl, Nat.reduceMul, Nat.reduceEqDiff, Go.Addr.add, ↓reduceIte] at hx204_0)
                have qi204 : (3 < t195.length) = True := eq_true (by omega)
                (try rw [show ((3 : Int)).toNat = 3 from rfl] at hx204_0)
                replace p204 := eq_true p204
                replace q204 := eq_true q204
                refine sA (n := 16) (S := fun w' => w'.cell? ad201 = some (.int .i64 (rd t195 0)) ∧ w'.cell? ⟨ad201.block, ad201.off + 1, none⟩ = some (.int .i64 (rd t195 1)) ∧ w'.cell? ⟨ad201.block, ad201.off + 2, none⟩ = some (.int .i64 (rd t195 2)) ∧ w'.cell? ⟨ad201.block, ad201.off + 3, none⟩ = some (.int .i64 (rd t195 3))) (ds := []) impl_ParseLead.tab8 impl_ParseLead.bits8 #[false, false, false, false, false, false, false, false, false, false, false, false, false, false, false, false] ⟨hx201_0, hx202_0, hx203_0, hx204_0⟩ fun hHeld HT_ HW_ => ?_
                generalize wc.drew = w49 at HO_5 BK183 HB hx201_0 hx202_0 hx203_0 hx204_0 hHeld ⊢
                refine pA 0 45 HT_ ?_
                refine pA 1 46 HT_ ?_
                refine pA 3 48 HT_ ?_
                refine pA 4 49 HT_ ?_
                refine pA 6 51 HT_ ?_
                refine pA 7 52 HT_ ?_
                refine pA 9 54 HT_ ?_
                refine pA 10 55 HT_ ?_
                refine pA 12 57 HT_ ?_
                refine tA 2 47 HT_ HW_ hHeld ?_
                refine tA 5 50 HT_ HW_ hHeld ?_
                refine tA 8 53 HT_ HW_ hHeld ?_
                refine tA 11 56 HT_ HW_ hHeld ?_
                refine pA 13 58 HT_ ?_
                refine oA 14 (some 8) HT_ fun K hK => ?_
                refine box_step ?hg (N := 8) ?hd (cs := #[.int .i64 0, .int .i64 0, .int .i64 0, .int .i64 0, .int .i64 0]) (t := 26) ?hr ?_; (case hd => rfl); (case hg => rfl); (case hr => first | (go_simp; done) | (go_simp; rfl))
                intro gb205 hg w51 hbox hb
                have HS0_ := (hb.cell (World.block_lt_of_cell? _ _ (hHeld.1))).trans (hHeld.1)
                have HS1_ := (hb.cell (World.block_lt_of_cell? _ _ (hHeld.2.1))).trans (hHeld.2.1)
                have HS2_ := (hb.cell (World.block_lt_of_cell? _ _ (hHeld.2.2.1))).trans (hHeld.2.2.1)
                have HS3_ := (hb.cell (World.block_lt_of_cell? _ _ (hHeld.2.2.2))).trans (hHeld.2.2.2)
                have BK205 := Aside0.mk hbox
                have GE205 := gB HB hg
                have ⟨NB183_205, NB205_183⟩ := nB BK183 hg
                replace HO_5 := uR HO_5 hb
                replace BK183 := uK BK183 hb
                replace HB := uB HB hb
                clear hb hbox hg
                refine hK.out _ _ ⟨HS0_, HS1_, HS2_, HS3_⟩ (fun hHeld => ?_)
                clear hK K
                refine nA ?_ (some 8)
                refine oA 15 none HT_ fun K hK => ?_
                have hs52 := ci BK205.out 0 0 rfl
                have hfs52 := blk_frozen BK205.out 0
                have hns52_0 := NB183_205.out
                have hms52_0 := NB205_183.out
                have hs53 := ci BK205.out 1 0 rfl
                have hfs53 := blk_frozen BK205.out 1
                have hs54 := ci BK205.out 2 0 rfl
                have hfs54 := blk_frozen BK205.out 2
                have hs55 := ci BK205.out 3 0 rfl
                have hfs55 := blk_frozen BK205.out 3
                have hs56 := ci BK205.out 4 0 rfl
                have hfs56 := blk_frozen BK205.out 4
                refine skip_ (w1 := ?_) (by rfl) rfl ?_ ?_
                rotate_left
                ·go_simp
                 rfl
                have hne_ : ad201.block ≠ gb205 := Kd.own_blk (Kd.R_ne HO_5.out BK205.out (by decide))
                refine hK.out _ _ ?held_ (fun hHeld => ?_)
                case held_ => exact ⟨far5_ (hHeld.1) hne_, far5_ (hHeld.2.1) hne_, far5_ (hHeld.2.2.1) hne_, far5_ (hHeld.2.2.2) hne_⟩
                clear hK K
                refine done_ (done_of HT_.out (by kernel_rfl)) ?_
                have hcz58_0 := ci BK205.out 0 0 rfl
                have hcz58_1 := ci BK205.out 1 0 rfl
                have hcz58_2 := ci BK205.out 2 0 rfl
                have hcz58_3 := ci BK205.out 3 0 rfl
                have hcz58_4 := ci BK205.out 4 0 rfl
                have hfz58_0 := fun j_ : Nat => blk_frozen BK205.out j_
                try go_wp2_with (first | ((with_reducible refine gC 14 ?_); refine lA (some 60) Tryd.func14 (impl_IsLead.calls (rd t195 0) (rd t195 1) (rd t195 2) (rd t195 3) t200 true _ A30.out) ?_; intro w59 hb; replace HO_5 := Aside0.mk (Kd.R_below (by (with_reducible repeat (first | apply Kd.R_alloc | apply Kd.R_drewN | apply Kd.R_drew)); exact (Kd.R_mono (Kd.R_far (p := ⟨gb205, 4, none⟩) (Kd.R_far (p := ⟨gb205, 3, none⟩) (Kd.R_far (p := ⟨gb205, 2, none⟩) (Kd.R_far (p := ⟨gb205, 1, none⟩) (Kd.R_far (p := ⟨gb205, 0, none⟩) (Kd.R_types HO_5.out BK205.out (by decide)) (fun _ hk => hk.2) (.int .i64 (rd t195 0))) (fun _ hk => hk.2) (.int .i64 (rd t195 1))) (fun _ hk => hk.2) (.int .i64 (rd t195 2))) (fun _ hk => hk.2) (.int .i64 (rd t195 3))) (fun _ hk => hk.2) (.int .i64 t200)) (fun _ h_ => h_.1))) hb); replace BK183 := uQ BK183 hb #[.int .i64 0, .int .i64 0, .int .i64 0, .int .i64 0, .int .i64 0]; replace BK205 := uQ BK205 hb #[.int .i64 (rd t195 0), .int .i64 (rd t195 1), .int .i64 (rd t195 2), .int .i64 (rd t195 3), .int .i64 t200]; replace HB := uB HB hb; (try clear hb); (try clear hk); have hcz60_0 := ci BK205.out 0 (rd t195 0) rfl; have hcz60_1 := ci BK205.out 1 (rd t195 1) rfl; have hcz60_2 := ci BK205.out 2 (rd t195 2) rfl; have hcz60_3 := ci BK205.out 3 (rd t195 3) rfl; have hcz60_4 := ci BK205.out 4 t200 rfl; have hfz60_0 := fun j_ : Nat => blk_frozen BK205.out j_) | (go_at_call 26; (with_reducible refine (impl_leadText.calls (rd t195 0) (rd t195 1) (rd t195 2) (rd t195 3) t200 t207 _ A32.out (TabW.up2 hTW HB.out)).mono ?_); rintro e w61 ⟨rfl, hb⟩; replace HO_5 := uR HO_5 hb; replace BK183 := uK BK183 hb; replace BK205 := uK BK205 hb; replace HB := uB HB hb; (try clear hb); (try clear hk); have ⟨hcz62_0, hcz62_1, hcz62_2, hcz62_3, hcz62_4, hfz62_0⟩ := cz5 BK183))
                refine bodyPost_ret (results_ct rfl _ _ gb183 26 #[.int .i64 0, .int .i64 0, .int .i64 0, .int .i64 0, .int .i64 0] (0, 0) _ rfl (by exact pW BK183) Tryd.underlying26 rfl (by kernel_rfl)) rfl ?_
                exact ⟨eB, (bW HB)⟩
              ·replace H := iF (by decide) H
               simp only [Option.some.injEq, Prod.mk.injEq] at H
               obtain ⟨rfl, rfl, rfl, rfl, rfl, rfl⟩ := H
               try go_wp2
               replace HO_5 := Aside0.mk (Kd.R_drew HO_5.out)
               replace BK183 := dK BK183
               replace HB := Aside0.mk (below_drew1 HB.out)
               obtain ⟨Ao64, co64, eo64⟩ := Kd.R_slice HO_5.out
               (first | subst eo64 | (injection eo64 with f1_ f2_ f3_; have f4_ := f1_.symm; have f5_ := f3_.symm; clear f1_ f2_ f3_; subst f4_; subst f5_))
               have p201 : 0 ≤ (0 : Int) := (by omega)
               have q201 : 0 < (t195.length : Int) := of_decide_eq_true asmB
               obtain ⟨ad201, e201, hx201_0⟩ := Kd.at_int (Kd.R_reads' HO_5.out).2.2 0 p201 q201
               cases e201
               have qi201 : (0 < t195.length) = True := eq_true (by omega)
               (try rw [show ((0 : Int)).toNat = 0 from rfl] at hx201_0)
               (try rw [Addr.add_zero'] at hx201_0)
               replace p201 := eq_true p201
               replace q201 := eq_true q201
               have p202 : 0 ≤ (1 : Int) := (by omega)
               have q202 : 1 < (t195.length : Int) := of_decide_eq_true asmB
               obtain ⟨ad202, e202, hx202_0⟩ := Kd.at_int (Kd.R_reads' HO_5.out).2.2 1 p202 q202
               obtain rfl : ad201 = ad202 := (by injection e202)
               (try simp only [show (1 : Int).toNat = 1 from rfl, Nat.reduceMul, Nat.reduceEqDiff, Go.Addr.add, ↓reduceIte] at hx202_0)
               have qi202 : (1 < t195.length) = True := eq_true (by omega)
               (try rw [show ((1 : Int)).toNat = 1 from rfl] at hx202_0)
               replace p202 := eq_true p202
               replace q202 := eq_true q202
               have p203 : 0 ≤ (2 : Int) := (by omega)
               have q203 : 2 < (t195.length : Int) := of_decide_eq_true asmB
               obtain ⟨ad203, e203, hx203_0⟩ := Kd.at_int (Kd.R_reads' HO_5.out).2.2 2 p203 q203
               obtain rfl : ad201 = ad203 := (by injection e203)
               (try simp only [show (2 : Int).toNat = 2 from rfl, Nat.reduceMul, Nat.reduceEqDiff, Go.Addr.add, ↓reduceIte] at hx203_0)
               have qi203 : (2 < t195.length) = True := eq_true (by omega)
               (try rw [show ((2 : Int)).toNat = 2 from rfl] at hx203_0)
               replace p203 := eq_true p203
               replace q203 := eq_true q203
               have p204 : 0 ≤ (3 : Int) := (by omega)
               have q204 : 3 < (t195.length : Int) := of_decide_eq_true asmB
               obtain ⟨ad204, e204, hx204_0⟩ := Kd.at_int (Kd.R_reads' HO_5.out).2.2 3 p204 q204
               obtain rfl : ad201 = ad204 := (by injection e204)
               (try simp only [show (3 : Int).toNat = 3 from rfl, Nat.reduceMul, Nat.reduceEqDiff, Go.Addr.add, ↓reduceIte] at hx204_0)
               have qi204 : (3 < t195.length) = True := eq_true (by omega)
               (try rw [show ((3 : Int)).toNat = 3 from rfl] at hx204_0)
               replace p204 := eq_true p204
               replace q204 := eq_true q204
               refine sA (n := 16) (S := fun w' => w'.cell? ad201 = some (.int .i64 (rd t195 0)) ∧ w'.cell? ⟨ad201.block, ad201.off + 1, none⟩ = some (.int .i64 (rd t195 1)) ∧ w'.cell? ⟨ad201.block, ad201.off + 2, none⟩ = some (.int .i64 (rd t195 2)) ∧ w'.cell? ⟨ad201.block, ad201.off + 3, none⟩ = some (.int .i64 (rd t195 3))) (ds := []) impl_ParseLead.tab8 impl_ParseLead.bits8 #[false, false, false, false, false, false, false, false, false, false, false, false, false, false, false, false] ⟨hx201_0, hx202_0, hx203_0, hx204_0⟩ fun hHeld HT_ HW_ => ?_
               generalize wc.drew = w63 at HO_5 BK183 HB hx201_0 hx202_0 hx203_0 hx204_0 hHeld ⊢
               refine pA 0 45 HT_ ?_
               refine pA 1 46 HT_ ?_
               refine pA 3 48 HT_ ?_
               refine pA 4 49 HT_ ?_
               refine pA 6 51 HT_ ?_
               refine pA 7 52 HT_ ?_
               refine pA 9 54 HT_ ?_
               refine pA 10 55 HT_ ?_
               refine pA 12 57 HT_ ?_
               refine tA 2 47 HT_ HW_ hHeld ?_
               refine tA 5 50 HT_ HW_ hHeld ?_
               refine tA 8 53 HT_ HW_ hHeld ?_
               refine tA 11 56 HT_ HW_ hHeld ?_
               refine pA 13 58 HT_ ?_
               refine oA 14 (some 8) HT_ fun K hK => ?_
               refine box_step ?hg (N := 8) ?hd (cs := #[.int .i64 0, .int .i64 0, .int .i64 0, .int .i64 0, .int .i64 0]) (t := 26) ?hr ?_; (case hd => rfl); (case hg => rfl); (case hr => first | (go_simp; done) | (go_simp; rfl))
               intro gb205 hg w65 hbox hb
               have HS0_ := (hb.cell (World.block_lt_of_cell? _ _ (hHeld.1))).trans (hHeld.1)
               have HS1_ := (hb.cell (World.block_lt_of_cell? _ _ (hHeld.2.1))).trans (hHeld.2.1)
               have HS2_ := (hb.cell (World.block_lt_of_cell? _ _ (hHeld.2.2.1))).trans (hHeld.2.2.1)
               have HS3_ := (hb.cell (World.block_lt_of_cell? _ _ (hHeld.2.2.2))).trans (hHeld.2.2.2)
               have BK205 := Aside0.mk hbox
               have GE205 := gB HB hg
               have ⟨NB183_205, NB205_183⟩ := nB BK183 hg
               replace HO_5 := uR HO_5 hb
               replace BK183 := uK BK183 hb
               replace HB := uB HB hb
               clear hb hbox hg
               refine hK.out _ _ ⟨HS0_, HS1_, HS2_, HS3_⟩ (fun hHeld => ?_)
               clear hK K
               refine nA ?_ (some 8)
               refine oA 15 none HT_ fun K hK => ?_
               have hs66 := ci BK205.out 0 0 rfl
               have hfs66 := blk_frozen BK205.out 0
               have hns66_0 := NB183_205.out
               have hms66_0 := NB205_183.out
               have hs67 := ci BK205.out 1 0 rfl
               have hfs67 := blk_frozen BK205.out 1
               have hs68 := ci BK205.out 2 0 rfl
               have hfs68 := blk_frozen BK205.out 2
               have hs69 := ci BK205.out 3 0 rfl
               have hfs69 := blk_frozen BK205.out 3
               have hs70 := ci BK205.out 4 0 rfl
               have hfs70 := blk_frozen BK205.out 4
               refine skip_ (w1 := ?_) (by rfl) rfl ?_ ?_
               rotate_left
               ·go_simp
                rfl
               have hne_ : ad201.block ≠ gb205 := Kd.own_blk (Kd.R_ne HO_5.out BK205.out (by decide))
               refine hK.out _ _ ?held_ (fun hHeld => ?_)
               case held_ => exact ⟨far5_ (hHeld.1) hne_, far5_ (hHeld.2.1) hne_, far5_ (hHeld.2.2.1) hne_, far5_ (hHeld.2.2.2) hne_⟩
               clear hK K
               refine done_ (done_of HT_.out (by kernel_rfl)) ?_
               have hcz72_0 := ci BK205.out 0 0 rfl
               have hcz72_1 := ci BK205.out 1 0 rfl
               have hcz72_2 := ci BK205.out 2 0 rfl
               have hcz72_3 := ci BK205.out 3 0 rfl
               have hcz72_4 := ci BK205.out 4 0 rfl
               have hfz72_0 := fun j_ : Nat => blk_frozen BK205.out j_
               try go_wp2_with (first | ((with_reducible refine gC 14 ?_); refine lA (some 60) Tryd.func14 (impl_IsLead.calls (rd t195 0) (rd t195 1) (rd t195 2) (rd t195 3) t200 false _ A30.out) ?_; intro w73 hb; replace HO_5 := Aside0.mk (Kd.R_below (by (with_reducible repeat (first | apply Kd.R_alloc | apply Kd.R_drewN | apply Kd.R_drew)); exact (Kd.R_mono (Kd.R_far (p := ⟨gb205, 4, none⟩) (Kd.R_far (p := ⟨gb205, 3, none⟩) (Kd.R_far (p := ⟨gb205, 2, none⟩) (Kd.R_far (p := ⟨gb205, 1, none⟩) (Kd.R_far (p := ⟨gb205, 0, none⟩) (Kd.R_types HO_5.out BK205.out (by decide)) (fun _ hk => hk.2) (.int .i64 (rd t195 0))) (fun _ hk => hk.2) (.int .i64 (rd t195 1))) (fun _ hk => hk.2) (.int .i64 (rd t195 2))) (fun _ hk => hk.2) (.int .i64 (rd t195 3))) (fun _ hk => hk.2) (.int .i64 t200)) (fun _ h_ => h_.1))) hb); replace BK183 := uQ BK183 hb #[.int .i64 0, .int .i64 0, .int .i64 0, .int .i64 0, .int .i64 0]; replace BK205 := uQ BK205 hb #[.int .i64 (rd t195 0), .int .i64 (rd t195 1), .int .i64 (rd t195 2), .int .i64 (rd t195 3), .int .i64 t200]; replace HB := uB HB hb; (try clear hb); (try clear hk); have ⟨hcz74_0, hcz74_1, hcz74_2, hcz74_3, hcz74_4, hfz74_0⟩ := cz5 BK183))
               refine bodyPost_ret (results_ct rfl _ _ gb183 26 #[.int .i64 0, .int .i64 0, .int .i64 0, .int .i64 0, .int .i64 0] (0, 0) _ rfl (by exact pW BK183) Tryd.underlying26 rfl (by kernel_rfl)) rfl ?_
               exact ⟨eB, (bW HB)⟩
             ·rw [if_neg c29] at H
              exact absurd H (by simp)
            ·rw [if_neg c28] at H
             exact absurd H (by simp)
           ·rw [if_neg c27] at H
            exact absurd H (by simp)
          ·rw [if_neg c26] at H
           exact absurd H (by simp)
      ·rw [if_neg c10] at H
       exact absurd H (by simp)
     ·rw [if_neg c8] at H
      exact absurd H (by simp)
    ·rw [if_neg c7] at H
     exact absurd H (by simp)
   ·rw [if_neg c5] at H
    exact absurd H (by simp)
  ·rw [if_neg c4] at H
   exact absurd H (by simp)
 ·simp only [Option.some.injEq, Prod.mk.injEq] at H
  obtain ⟨rfl, rfl, rfl, rfl, rfl, rfl⟩ := H
  go_enter Tryd.func10, Tryd.ntmps10
  go_wp2_with (first | ((with_reducible refine gD 2 ?_); refine bxE 2 26 #[.int .i64 0, .int .i64 0, .int .i64 0, .int .i64 0, .int .i64 0] fun gb183 w75 hg hbox hb => ?_; have BK183 := Aside0.mk hbox; have GE183 := gB HB hg; replace HB := uB HB hb; clear hb hbox hg) | ((with_reducible refine gate_callee (f := 29) rfl ?_); refine goesL_ (some 10) rfl rfl Tryd.func29 (by kernel_rfl) rfl #[.string a0, .string (⟨#[32]⟩ : ByteArray)] rfl argsB ?_; (with_reducible refine (strings_Split.calls a0 (⟨#[32]⟩ : ByteArray) t184 _ A2.out (TabW.up2 hTW HB.out)).mono ?_); rintro e w76 ⟨v185, rfl, ho0, hb⟩; refine ⟨_, rfl, ?_⟩; have HO186 := Aside0.mk (Kd.R_lower ho0 (below_size (bW HB))); replace BK183 := uK BK183 hb; replace HB := uB HB hb; (try clear hb); (try clear hk); (try clear ho0); obtain ⟨Ao77, co77, eo77⟩ := Kd.R_slice HO186.out; subst eo77; have ⟨hcz78_0, hcz78_1, hcz78_2, hcz78_3, hcz78_4, hfz78_0⟩ := cz5 BK183))
  refine bodyPost_ret (results_ct rfl _ _ gb183 26 #[.int .i64 0, .int .i64 0, .int .i64 0, .int .i64 0, .int .i64 0] (0, 0) _ rfl (by exact pW BK183) Tryd.underlying26 rfl (by kernel_rfl)) rfl ?_
  exact ⟨eB, (bW HB)⟩

end Go.Proofs.YtldgjibimolcdaaDoor.QFnLeads
