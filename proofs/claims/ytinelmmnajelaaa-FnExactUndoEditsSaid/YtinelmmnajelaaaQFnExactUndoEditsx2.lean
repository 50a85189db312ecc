/- Contracts of Go functions that FnExactUndoEdits reaches: the call computes what the plain function says. No condition. -/
import Derived.Test.YtinelmmnajelaaaQFnExactUndoEditsx0
namespace Go.Proofs.Ytinelmmnajelaaa.QFnExactUndoEdits
open Go.RowKit Go.Proofs.YtinelmmnajelaaaW.PrintWords Go.Proofs.YtinelmmnajelaaaW.PrintLast Go.Proofs.YtinelmmnajelaaaW.PrintMore
attribute [local go_sem] max2_int min2_int max_two min_two max_three min_three max_four min_four   -- for this text's walks alone
set_option linter.unusedVariables false
set_option linter.unusedSimpArgs false

/-! ### laws_szLegS: function 17 -/
def laws_szLegS.f (l0 : List (S23)) (a1 : Int) : Option (Int) := if (wrap64 (a1 - (l0.length : Int))) < 0 then (some (-1)) else (some (wrap64 (a1 - (l0.length : Int))))
set_option maxHeartbeats 8000000 in
set_option maxRecDepth 100000 in
theorem laws_szLegS.calls (A0 : Option Addr) (c0 : Nat) (l0 : List (S23)) (a1 r : Int) (w : World) (hr0 : Kd.C k23 w A0 l0.length l0) (hc0 : l0.length ≤ c0) (h : laws_szLegS.f l0 a1 = some r) :
  Calls Try.prog 17 #[.slice A0 l0.length c0, .int .i64 a1] w fun e w' => e = .returned (.int .i64 r) ∧ Drawn0 w w' := by
 have HR0 := Aside0.mk hr0
 have HC0 := Aside0.mk hc0
 clear hr0 hc0
 have H := h
 clear h
 unfold laws_szLegS.f at H
 replace H := ifD H
 rcases H with ⟨H, -, c3b0⟩ | ⟨H, -, c3b0⟩
 ·obtain rfl := Option.some.inj H
  go_enter Try.func17, Try.ntmps17
  go_wp2
  go_ret
  exact ⟨rB, by repeat (first | exact Drawn0.refl _ | apply Drawn0.step)⟩
 ·obtain rfl := Option.some.inj H
  go_enter Try.func17, Try.ntmps17
  go_wp2
  go_ret
  exact ⟨rB, by repeat (first | exact Drawn0.refl _ | apply Drawn0.step)⟩

/-! ### laws_toLeg: function 60 -/
def laws_toLeg.f (a0_0 a0_1 a0_2 a0_3 a0_4 : Int) : Option (Int × Int × Int × Int × Int) := some (a0_0, a0_1, a0_2, a0_3, a0_4)
set_option maxHeartbeats 8000000 in
set_option maxRecDepth 100000 in
theorem laws_toLeg.calls (a0_0 a0_1 a0_2 a0_3 a0_4 r1 r2 r3 r4 r5 : Int) (w : World) (h : laws_toLeg.f a0_0 a0_1 a0_2 a0_3 a0_4 = some (r1, r2, r3, r4, r5)) :
  Calls Try.prog 60 #[.agg #[.int .i64 a0_0, .int .i64 a0_1, .int .i64 a0_2, .int .i64 a0_3, .int .i64 a0_4]] w fun e w' => e = .returned (.agg #[.int .i64 r1, .int .i64 r2, .int .i64 r3, .int .i64 r4, .int .i64 r5]) ∧ Below w.heap.size w w' := by
 have hu23 := Try.underlying23
 have hu26 := Try.underlying26
 have HB := Aside0.mk (Below.refl w.heap.size w)
 have H := h
 clear h
 unfold laws_toLeg.f at H
 simp only [Option.some.injEq, Prod.mk.injEq] at H
 obtain ⟨rfl, rfl, rfl, rfl, rfl⟩ := H
 go_enter Try.func60, Try.ntmps60
 go_wp2_with (first | ((with_reducible refine gD 1 ?_); refine bxE 1 23 #[.int .i64 a0_0, .int .i64 a0_1, .int .i64 a0_2, .int .i64 a0_3, .int .i64 a0_4] fun gb101 w2 hg hbox hb => ?_; have BK101 := Aside0.mk hbox; have GE101 := gB HB hg; replace HB := uB HB hb; clear hb hbox hg) | ((with_reducible refine gD 2 ?_); refine bxE 2 26 #[.int .i64 0, .int .i64 0, .int .i64 0, .int .i64 0, .int .i64 0] fun gb102 w3 hg hbox hb => ?_; have BK102 := Aside0.mk hbox; have GE102 := gB HB hg; have ⟨NB101_102, NB102_101⟩ := nB BK101 hg; replace BK101 := uK BK101 hb; replace HB := uB HB hb; clear hb hbox hg) | ((with_reducible refine gD 3 ?_); refine bxE 3 26 #[.int .i64 0, .int .i64 0, .int .i64 0, .int .i64 0, .int .i64 0] fun gb103 w4 hg hbox hb => ?_; have BK103 := Aside0.mk hbox; have GE103 := gB HB hg; have ⟨NB101_103, NB103_101⟩ := nB BK101 hg; have ⟨NB102_103, NB103_102⟩ := nB BK102 hg; replace BK101 := uK BK101 hb; replace BK102 := uK BK102 hb; replace HB := uB HB hb; clear hb hbox hg; have hnb5 := NB101_102.out; have hnc5 := NB102_101.out; have hnb6 := NB101_103.out; have hnc6 := NB103_101.out; have ⟨hcz7_0, hcz7_1, hcz7_2, hcz7_3, hcz7_4, hfz7_0⟩ := cz5 BK101; have hnb8 := NB103_102.out; have hnc8 := NB102_103.out; have ⟨hcz9_0, hcz9_1, hcz9_2, hcz9_3, hcz9_4, hfz9_0⟩ := cz5 BK103; have ⟨hcz10_0, hcz10_1, hcz10_2, hcz10_3, hcz10_4, hfz10_0⟩ := cz5 BK102))
 refine bodyPost_ret (results_cell_row rfl _ _ gb102 26 #[.int .i64 a0_0, .int .i64 a0_1, .int .i64 a0_2, .int .i64 a0_3, .int .i64 a0_4] (0, 0) _ rfl (by exact pW BK102) Try.underlying26 rfl (by kernel_rfl)) rfl ?_
 exact ⟨eB, (bW HB)⟩

/-! ### laws_toLegS: function 19 -/
def laws_toLegS.l0 : Nat → List (S23) → List (S26) → Int → Option ((List (S26)))
 | 0, _, _, _ => none
 | k + 1, x0, x3, x4 => if x4 < (x0.length : Int) then (if 0 ≤ x4 then ((laws_toLeg.f ((rd_T23 x0 x4).f0) ((rd_T23 x0 x4).f1) ((rd_T23 x0 x4).f2) ((rd_T23 x0 x4).f3) ((rd_T23 x0 x4).f4)).bind fun bt108 => (if x4 < (x3.length : Int) then (laws_toLegS.l0 k x0 (x3.set (x4 : Int).toNat (⟨bt108.1, bt108.2.1, bt108.2.2.1, bt108.2.2.2.1, bt108.2.2.2.2⟩ : S26)) (wrap64 (x4 + 1))) else (none))) else (none)) else (some x3)
def laws_toLegS.f (k : Nat) (l0 : List (S23)) : Option ((List (S26))) := if 0 ≤ (l0.length : Int) then (if ((l0.length : Int) : Int).toNat ≤ 7036874417766 then (laws_toLegS.l0 k l0 (List.replicate ((l0.length : Int) : Int).toNat z26) 0) else (none)) else (none)
theorem laws_toLegS.mono_l : ∀ k, (∀ y0 y1 y2, LeO (laws_toLegS.l0 k y0 y1 y2) (laws_toLegS.l0 (k + 1) y0 y1 y2))
 | 0 => fun _ _ _ r h => by simp [laws_toLegS.l0] at h
 | k + 1 => by
  have ih0 := laws_toLegS.mono_l k
  ·intro y0 y1 y2
   unfold laws_toLegS.l0
   repeat' with_reducible first | apply ih0 | exact LeO.refl _ | exact LeO.none _ | refine LeO.ite ?_ ?_ | refine LeO.bind ?_ (fun _ => ?_)
theorem laws_toLegS.mono : ∀ a0 k, LeO (laws_toLegS.f k a0) (laws_toLegS.f (k + 1) a0) := by
 intro a0 k
 have ih0 := laws_toLegS.mono_l k
 unfold laws_toLegS.f
 repeat' with_reducible first | apply ih0 | exact LeO.refl _ | exact LeO.none _ | refine LeO.ite ?_ ?_ | refine LeO.bind ?_ (fun _ => ?_)
set_option maxHeartbeats 8000000 in
set_option maxRecDepth 100000 in
theorem laws_toLegS.calls (k : Nat) (A0 : Option Addr) (c0 : Nat) (l0 : List (S23)) (r : List (S26)) (w : World) (hr0 : Kd.C k23 w A0 l0.length l0) (hc0 : l0.length ≤ c0) (h : laws_toLegS.f k l0 = some r) :
  Calls Try.prog 19 #[.slice A0 l0.length c0] w fun e w' => ∃ v0_ : Value, e = .returned (v0_) ∧ Kd.R k26 26 w' w.heap.size (fun _ => True) v0_ r ∧ Below w.heap.size w w' := by
 have hu23 := Try.underlying23
 have hu26 := Try.underlying26
 have HR0 := Aside0.mk hr0
 have HC0 := Aside0.mk hc0
 clear hr0 hc0
 have HB := Aside0.mk (Below.refl w.heap.size w)
 have H := h
 clear h
 unfold laws_toLegS.f at H
 by_cases c2 : 0 ≤ (l0.length : Int)
 ·rw [if_pos c2] at H
  have c2b0 := eq_true c2
  have c2b1 : decide (0 ≤ (l0.length : Int)) = true := decide_eq_true c2
  clear c2
  by_cases c3 : ((l0.length : Int) : Int).toNat ≤ 7036874417766
  ·rw [if_pos c3] at H
   have c3b0 := eq_true c3
   have c3b1 : decide (((l0.length : Int) : Int).toNat ≤ 7036874417766) = true := decide_eq_true c3
   clear c3
   obtain ⟨y104, hy104⟩ : ∃ y_ : List (S26), y_ = (List.replicate ((l0.length : Int) : Int).toNat z26) := ⟨_, rfl⟩
   replace H : (laws_toLegS.l0 k l0 y104 0) = some r := by first | (rw [hy104]; with_reducible exact H) | (have H2_ := (Option.bind_some _ _).symm.trans H; rw [hy104]; with_reducible exact H2_) | (have H2_ := (Option.bind_some _ _).symm.trans H; with_reducible exact H2_) | with_reducible exact H | (rw [hy104]; exact H) | exact H
   have Ny104 := Aside0.mk hy104
   clear hy104
   have H' := Aside0.mk H
   clear H
   go_enter Try.func19, Try.ntmps19
   go_wp2_with (first | ((with_reducible refine gate_dst (N := 7) rfl ?_); refine Kd.R_make k26 _ 26 rfl (N := 7) rfl 39 _ _ rfl (l0.length : Int) rfl rfl Try.underlying39 (.agg #[(.int .i64 0), (.int .i64 0), (.int .i64 0), (.int .i64 0), (.int .i64 0)]) 40 info26 rfl (by decide) (by omega) z26 (ok := fun _ => True) (okp := fun _ => True) (k26_mkM _ _ _ z26 ) (fun _ hk => hk) trivial (of_decide_eq_true asmB) (Nat.le_trans (Nat.mul_le_mul_right _ (of_decide_eq_true asmB : (l0.length : Int).toNat ≤ 7036874417766)) (by omega)) (Below.refl _ _) (Nat.le_refl _) ?_; intro v105 w4 ho5 hb hg_ hnew_; clear hg_ hnew_; (first | rw [← Ny104.out] at ho5 | (simp only [Int.reduceToNat] at ho5; rw [← Ny104.out] at ho5)); have HO106 := Aside0.mk (Kd.R_lower ho5 (below_size (bW HB))); replace HB := uB HB hb; clear hb ho5))
   (try simp only [Act.put, List.setIfInBounds_toArray, List.set_cons_zero, List.set_cons_succ])
   go_loopg [4] k (fun kq v4 w' => ∃ (x3_1 : List (S26)) (x4_1 : Int), v4 = .int .i64 x4_1 ∧ Aside0 (laws_toLegS.l0 kq l0 x3_1 x4_1 = some r) ∧ Aside0 (kq ≤ k) ∧ Aside0 (Kd.R k26 26 w' w.heap.size (fun _ => True) v105 x3_1) ∧ Aside0 (Below w.heap.size w w'))
   case atStart => exact ⟨(y104), (0), rB, H', ⟨Nat.le_refl _⟩, ⟨upR HO106.out⟩, (aB HB)⟩
   case round =>
    clear H'
    try clear c2
    try clear c2b0
    try clear c2b1
    try clear c3
    try clear c3b0
    try clear c3b1
    obtain ⟨x3_1, x4_1, rfl, HA, HK1, HO_3, HB⟩ := hrel
    cases gk with
    | zero => exact absurd HA.out (by simp [laws_toLegS.l0])
    | succ k1 =>
     have H := HA.out
     clear HA
     simp only [laws_toLegS.l0] at H
     replace H := ifD H
     rcases H with ⟨H, -, c6b0⟩ | ⟨H, -, c6b0⟩
     ·by_cases c7 : 0 ≤ x4_1
      ·rw [if_pos c7] at H
       have c7b0 : decide (0 ≤ x4_1) = true := decide_eq_true c7
       clear c7
       replace H := Option.bind_eq_some_iff.mp H
       obtain ⟨⟨t108, t109, t110, t111, t112⟩, A80, H⟩ := H
       replace H : (if x4_1 < (x3_1.length : Int) then (laws_toLegS.l0 k1 l0 (x3_1.set (x4_1 : Int).toNat (⟨t108, t109, t110, t111, t112⟩ : S26)) (wrap64 (x4_1 + 1))) else (none)) = some r := H
       have A8 := Aside0.mk A80
       clear A80
       by_cases c9 : x4_1 < (x3_1.length : Int)
       ·rw [if_pos c9] at H
        have c9b0 : decide (x4_1 < (x3_1.length : Int)) = true := decide_eq_true c9
        clear c9
        obtain ⟨y113, hy113⟩ : ∃ y_ : List (S26), y_ = (x3_1.set (x4_1 : Int).toNat (⟨t108, t109, t110, t111, t112⟩ : S26)) := ⟨_, rfl⟩
        replace H : (laws_toLegS.l0 k1 l0 y113 (wrap64 (x4_1 + 1))) = some r := by first | (rw [hy113]; with_reducible exact H) | (have H2_ := (Option.bind_some _ _).symm.trans H; rw [hy113]; with_reducible exact H2_) | (have H2_ := (Option.bind_some _ _).symm.trans H; with_reducible exact H2_) | with_reducible exact H | (rw [hy113]; exact H) | exact H
        have Ny113 := Aside0.mk hy113
        clear hy113
        have H' := Aside0.mk H
        clear H
        have p107 : 0 ≤ (x4_1 : Int) := of_decide_eq_true asmB
        have q107 : x4_1 < (l0.length : Int) := of_decide_eq_true asmB
        obtain ⟨ad107, e107, hx107_0, hx107_1, hx107_2, hx107_3, hx107_4⟩ := at_T23 HR0.out x4_1 p107 q107
        cases e107
        replace hx107_0 := bx HB.out hx107_0
        replace hx107_1 := bx HB.out hx107_1
        replace hx107_2 := bx HB.out hx107_2
        replace hx107_3 := bx HB.out hx107_3
        replace hx107_4 := bx HB.out hx107_4
        replace p107 := eq_true p107
        replace q107 := eq_true q107
        go_wp2_with (first | ((with_reducible refine gC 60 ?_); refine lA (some 20) Try.func60 (laws_toLeg.calls ((rd_T23 l0 x4_1).f0) ((rd_T23 l0 x4_1).f1) ((rd_T23 l0 x4_1).f2) ((rd_T23 l0 x4_1).f3) ((rd_T23 l0 x4_1).f4) t108 t109 t110 t111 t112 _ A8.out) ?_; intro w11 hb; replace HO_3 := uR HO_3 hb; replace HB := uB HB hb; (try clear hb); (try clear hk); have p10 : 0 ≤ (x4_1 : Int) := of_decide_eq_true asmB; have q10 : (x4_1 : Int) < ((x3_1.length : Int) : Int) := of_decide_eq_true asmB; obtain ⟨go10, co10, eo10, gb10, gl10, cl10, HG10⟩ := Kd.R_form HO_3.out (by omega); (first | cases eo10 | (injection eo10 with ea_ en_ ec_; (first | subst ea_ | (injection ea_ with ea_; subst ea_)); subst ec_; clear en_)); have GB10 := Aside0.mk gb10; have GG10 := Aside0.mk HG10; clear gb10 gl10 HG10; obtain ⟨ce10, hcl10, hM10, hcc10, hfr10⟩ := Kd.R_elem HO_3.out z26 (x4_1 : Int) p10 q10; obtain rfl := k26_openM hM10; have hx10_0 : w11.cell? ⟨go10, (x4_1 : Int).toNat * 5, none⟩ = some (.int .i64 ((rd_T26 x3_1 x4_1).f0)) := hcc10 0 _ rfl; have hx10_1 : w11.cell? ⟨go10, (x4_1 : Int).toNat * 5 + 1, none⟩ = some (.int .i64 ((rd_T26 x3_1 x4_1).f1)) := hcc10 1 _ rfl; have hx10_2 : w11.cell? ⟨go10, (x4_1 : Int).toNat * 5 + 2, none⟩ = some (.int .i64 ((rd_T26 x3_1 x4_1).f2)) := hcc10 2 _ rfl; have hx10_3 : w11.cell? ⟨go10, (x4_1 : Int).toNat * 5 + 3, none⟩ = some (.int .i64 ((rd_T26 x3_1 x4_1).f3)) := hcc10 3 _ rfl; have hx10_4 : w11.cell? ⟨go10, (x4_1 : Int).toNat * 5 + 4, none⟩ = some (.int .i64 ((rd_T26 x3_1 x4_1).f4)) := hcc10 4 _ rfl; have hf10_0 : w11.frozen? ⟨go10, (x4_1 : Int).toNat * 5, none⟩ = false := hfr10 0; have hf10_1 : w11.frozen? ⟨go10, (x4_1 : Int).toNat * 5 + 1, none⟩ = false := hfr10 1; have hf10_2 : w11.frozen? ⟨go10, (x4_1 : Int).toNat * 5 + 2, none⟩ = false := hfr10 2; have hf10_3 : w11.frozen? ⟨go10, (x4_1 : Int).toNat * 5 + 3, none⟩ = false := hfr10 3; have hf10_4 : w11.frozen? ⟨go10, (x4_1 : Int).toNat * 5 + 4, none⟩ = false := hfr10 4; clear hcl10 hcc10 hfr10 hM10; replace p10 := eq_true p10; replace q10 := eq_true q10; have HX12 := Aside0.mk (show Kd.R k26 26 w11 w.heap.size (fun _ => True) (.slice (some ⟨go10, 0, none⟩) x3_1.length co10) x3_1 from (upR HO_3.out)); obtain ⟨ce12, hcl12, hM12, hcc12, hfr12⟩ := Kd.R_elem HX12.out z26 (x4_1 : Int) (of_decide_eq_true asmB) (by have h_ : (x4_1 : Int) < ((x3_1.length : Int) : Int) := of_decide_eq_true asmB; first | exact h_ | (have e_ := (Kd.R_reads' HO_3.out).1; omega) | simpa using h_); obtain rfl := k26_openM hM12; have HP12 := Kd.R_seg HX12.out (x4_1 : Int) (of_decide_eq_true asmB) (by have h_ : (x4_1 : Int) < ((x3_1.length : Int) : Int) := of_decide_eq_true asmB; first | exact h_ | (have e_ := (Kd.R_reads' HO_3.out).1; omega) | simpa using h_) (seg := [.int .i64 t108, .int .i64 t109, .int .i64 t110, .int .i64 t111, .int .i64 t112]) (j := 0) hcl12 hcc12 (show 5 ≤ 5 from by decide) (x' := (⟨t108, t109, t110, t111, t112⟩ : S26)) (k26_mkM _ _ _ (⟨t108, t109, t110, t111, t112⟩ : S26) ) (fun _ hk => hk); have hx12_0 := hcc12 0 _ rfl; (try simp only [show (k26).sz = 5 from rfl, Nat.mul_one, Nat.add_zero] at hx12_0); have hf12_0 := hfr12 0; (try simp only [show (k26).sz = 5 from rfl, Nat.mul_one, Nat.add_zero] at hf12_0); have hx12_1 := hcc12 1 _ rfl; (try simp only [show (k26).sz = 5 from rfl, Nat.mul_one, Nat.add_zero] at hx12_1); have hf12_1 := hfr12 1; (try simp only [show (k26).sz = 5 from rfl, Nat.mul_one, Nat.add_zero] at hf12_1); have hx12_2 := hcc12 2 _ rfl; (try simp only [show (k26).sz = 5 from rfl, Nat.mul_one, Nat.add_zero] at hx12_2); have hf12_2 := hfr12 2; (try simp only [show (k26).sz = 5 from rfl, Nat.mul_one, Nat.add_zero] at hf12_2); have hx12_3 := hcc12 3 _ rfl; (try simp only [show (k26).sz = 5 from rfl, Nat.mul_one, Nat.add_zero] at hx12_3); have hf12_3 := hfr12 3; (try simp only [show (k26).sz = 5 from rfl, Nat.mul_one, Nat.add_zero] at hf12_3); have hx12_4 := hcc12 4 _ rfl; (try simp only [show (k26).sz = 5 from rfl, Nat.mul_one, Nat.add_zero] at hx12_4); have hf12_4 := hfr12 4; (try simp only [show (k26).sz = 5 from rfl, Nat.mul_one, Nat.add_zero] at hf12_4); clear hcl12 hcc12 hfr12 hM12) | ((with_reducible refine gate_store (t := 26) (p := 21) rfl ?_); refine store_event (t := 26) (p := 21) (v := ?vo_w13) (w1 := (((((w11.setCell ⟨go10, (x4_1 : Int).toNat * 5, none⟩ (.int .i64 t108)).setCell ⟨go10, (x4_1 : Int).toNat * 5 + 1, none⟩ (.int .i64 t109)).setCell ⟨go10, (x4_1 : Int).toNat * 5 + 2, none⟩ (.int .i64 t110)).setCell ⟨go10, (x4_1 : Int).toNat * 5 + 3, none⟩ (.int .i64 t111)).setCell ⟨go10, (x4_1 : Int).toNat * 5 + 4, none⟩ (.int .i64 t112))) ?hg ?ho ?hn ?hr ?_; (case ho => rfl); (case hg => rfl); (case hn => rfl); (case hr => first | (go_simp; done) | (go_simp; rfl)); intro w13 hw; have hg : w11.grownBy w13 (some go10) := (by rw [hw]; exact HP12.2); have hp_ : Kd.R k26 26 w13 w.heap.size (fun _ => True) (.slice (some ⟨go10, 0, none⟩) x3_1.length co10) y113 := (by rw [hw, Ny113.out]; exact HP12.1); clear HP12; replace HO_3 := Aside0.mk (hp_); replace HB := Aside0.mk ((by rw [hw]; exact below_set (below_set (below_set (below_set (below_set (HB.out) GB10.out) GB10.out) GB10.out) GB10.out) GB10.out : Below w.heap.size w w13)); clear hg hw hp_))
        go_roundg k1
        case measure => have := HK1.out; omega
        case rel => exact ⟨(y113), (wrap64 (x4_1 + 1)), rB, H', ⟨by have := HK1.out; omega⟩, ⟨upR HO_3.out⟩, (aB HB)⟩
       ·rw [if_neg c9] at H
        exact absurd H (by simp)
      ·rw [if_neg c7] at H
       exact absurd H (by simp)
     ·obtain rfl := Option.some.inj H
      go_wp2
      go_ret
      exact ⟨_, eB, upR HO_3.out, (bW HB)⟩
  ·rw [if_neg c3] at H
   exact absurd H (by simp)
 ·rw [if_neg c2] at H
  exact absurd H (by simp)

/-! ### laws_eqLeg: function 63 -/
def laws_eqLeg.f (a0_0 a0_1 a0_2 a0_3 a0_4 a1_0 a1_1 a1_2 a1_3 a1_4 : Int) : Option (Bool) := if a0_0 = a1_0 then (if a0_1 = a1_1 then (if a0_2 = a1_2 then (if a0_3 = a1_3 then (if a0_4 = a1_4 then (some true) else (some false)) else (some false)) else (some false)) else (some false)) else (some false)
set_option maxHeartbeats 4000000 in
set_option maxRecDepth 100000 in
theorem laws_eqLeg.calls (a0_0 a0_1 a0_2 a0_3 a0_4 a1_0 a1_1 a1_2 a1_3 a1_4 : Int) (r : Bool) (w : World) (h : laws_eqLeg.f a0_0 a0_1 a0_2 a0_3 a0_4 a1_0 a1_1 a1_2 a1_3 a1_4 = some r) :
  Calls Try.prog 63 #[.agg #[.int .i64 a0_0, .int .i64 a0_1, .int .i64 a0_2, .int .i64 a0_3, .int .i64 a0_4], .agg #[.int .i64 a1_0, .int .i64 a1_1, .int .i64 a1_2, .int .i64 a1_3, .int .i64 a1_4]] w fun e w' => e = .returned (.bool r) ∧ Below w.heap.size w w' := by
 have hu := Try.underlying26
 unfold laws_eqLeg.f at h
 by_cases c0 : a0_0 = a1_0
 ·rw [if_pos c0] at h
  have b0 := bne_eq_false_iff_eq.mpr c0
  clear c0
  by_cases c1 : a0_1 = a1_1
  ·rw [if_pos c1] at h
   have b1 := bne_eq_false_iff_eq.mpr c1
   clear c1
   by_cases c2 : a0_2 = a1_2
   ·rw [if_pos c2] at h
    have b2 := bne_eq_false_iff_eq.mpr c2
    clear c2
    by_cases c3 : a0_3 = a1_3
    ·rw [if_pos c3] at h
     have b3 := bne_eq_false_iff_eq.mpr c3
     clear c3
     by_cases c4 : a0_4 = a1_4
     ·rw [if_pos c4] at h
      have b4 := bne_eq_false_iff_eq.mpr c4
      clear c4
      obtain rfl := Option.some.inj h
      go_enter Try.func63, Try.ntmps63
      go_wp2
      go_ret
      exact ⟨rfl, by repeat (first | exact Below.refl _ _ | apply below_alloc)⟩
     ·rw [if_neg c4] at h
      have b4 := bne_iff_ne.mpr c4
      clear c4
      obtain rfl := Option.some.inj h
      go_enter Try.func63, Try.ntmps63
      go_wp2
      go_ret
      exact ⟨rfl, by repeat (first | exact Below.refl _ _ | apply below_alloc)⟩
    ·rw [if_neg c3] at h
     have b3 := bne_iff_ne.mpr c3
     clear c3
     obtain rfl := Option.some.inj h
     go_enter Try.func63, Try.ntmps63
     go_wp2
     go_ret
     exact ⟨rfl, by repeat (first | exact Below.refl _ _ | apply below_alloc)⟩
   ·rw [if_neg c2] at h
    have b2 := bne_iff_ne.mpr c2
    clear c2
    obtain rfl := Option.some.inj h
    go_enter Try.func63, Try.ntmps63
    go_wp2
    go_ret
    exact ⟨rfl, by repeat (first | exact Below.refl _ _ | apply below_alloc)⟩
  ·rw [if_neg c1] at h
   have b1 := bne_iff_ne.mpr c1
   clear c1
   obtain rfl := Option.some.inj h
   go_enter Try.func63, Try.ntmps63
   go_wp2
   go_ret
   exact ⟨rfl, by repeat (first | exact Below.refl _ _ | apply below_alloc)⟩
 ·rw [if_neg c0] at h
  have b0 := bne_iff_ne.mpr c0
  clear c0
  obtain rfl := Option.some.inj h
  go_enter Try.func63, Try.ntmps63
  go_wp2
  go_ret
  exact ⟨rfl, by repeat (first | exact Below.refl _ _ | apply below_alloc)⟩

/-! ### laws_eqEdit: function 16 -/
-- reaches: laws.eqLeg
def laws_eqEdit.f (a0_0 a0_1 a0_2 a0_3 a0_4 a0_5 a0_6 a0_7 a0_8 a0_9 a0_10 a0_11 a1_0 a1_1 a1_2 a1_3 a1_4 a1_5 a1_6 a1_7 a1_8 a1_9 a1_10 a1_11 : Int) : Option (Bool) := if a0_0 = a1_0 then (if a0_1 = a1_1 then ((laws_eqLeg.f a0_2 a0_3 a0_4 a0_5 a0_6 a1_2 a1_3 a1_4 a1_5 a1_6).bind fun t179 => (if t179 = true then ((laws_eqLeg.f a0_7 a0_8 a0_9 a0_10 a0_11 a1_7 a1_8 a1_9 a1_10 a1_11).bind fun t180 => (if t180 = true then (some true) else (some false))) else (some false))) else (some false)) else (some false)
theorem twoOf (w : World) (o1 o2 : Obj) : ((w.alloc o1).alloc o2).heap[w.heap.size]? = some o1 ∧ ((w.alloc o1).alloc o2).heap[w.heap.size + 1]? = some o2 ∧ Below w.heap.size w ((w.alloc o1).alloc o2) := by
 have h2 := blk_new (w.alloc o1) o2
 rw [alloc_size] at h2
 exact ⟨blk_alloc (blk_new w o1) _, h2, by repeat (first | exact Below.refl _ _ | apply below_alloc)⟩
set_option maxHeartbeats 4000000 in
set_option maxRecDepth 100000 in
theorem laws_eqEdit.calls (a0_0 a0_1 a0_2 a0_3 a0_4 a0_5 a0_6 a0_7 a0_8 a0_9 a0_10 a0_11 a1_0 a1_1 a1_2 a1_3 a1_4 a1_5 a1_6 a1_7 a1_8 a1_9 a1_10 a1_11 : Int) (r : Bool) (w : World) (h : laws_eqEdit.f a0_0 a0_1 a0_2 a0_3 a0_4 a0_5 a0_6 a0_7 a0_8 a0_9 a0_10 a0_11 a1_0 a1_1 a1_2 a1_3 a1_4 a1_5 a1_6 a1_7 a1_8 a1_9 a1_10 a1_11 = some r) :
  Calls Try.prog 16 #[.agg #[.int .i64 a0_0, .int .i64 a0_1, .int .i64 a0_2, .int .i64 a0_3, .int .i64 a0_4, .int .i64 a0_5, .int .i64 a0_6, .int .i64 a0_7, .int .i64 a0_8, .int .i64 a0_9, .int .i64 a0_10, .int .i64 a0_11], .agg #[.int .i64 a1_0, .int .i64 a1_1, .int .i64 a1_2, .int .i64 a1_3, .int .i64 a1_4, .int .i64 a1_5, .int .i64 a1_6, .int .i64 a1_7, .int .i64 a1_8, .int .i64 a1_9, .int .i64 a1_10, .int .i64 a1_11]] w fun e w' => e = .returned (.bool r) ∧ Below w.heap.size w w' := by
 have hu := Try.underlying26
 have hv := Try.underlying28
 unfold laws_eqEdit.f at h
 obtain ⟨d1, d2, b0⟩ := twoOf w (.cells #[.int .i64 a0_0, .int .i64 a0_1, .int .i64 a0_2, .int .i64 a0_3, .int .i64 a0_4, .int .i64 a0_5, .int .i64 a0_6, .int .i64 a0_7, .int .i64 a0_8, .int .i64 a0_9, .int .i64 a0_10, .int .i64 a0_11] 28) (.cells #[.int .i64 a1_0, .int .i64 a1_1, .int .i64 a1_2, .int .i64 a1_3, .int .i64 a1_4, .int .i64 a1_5, .int .i64 a1_6, .int .i64 a1_7, .int .i64 a1_8, .int .i64 a1_9, .int .i64 a1_10, .int .i64 a1_11] 28)
 have D1 := Aside0.mk d1
 have D2 := Aside0.mk d2
 have B0 := Aside0.mk b0
 clear d1 d2 b0
 by_cases c0 : a0_0 = a1_0
 ·rw [if_pos c0] at h
  have e0 := bne_eq_false_iff_eq.mpr c0
  clear c0
  by_cases c1 : a0_1 = a1_1
  ·rw [if_pos c1] at h
   have e1 := bne_eq_false_iff_eq.mpr c1
   clear c1
   obtain ⟨t1, h1, h⟩ := Option.bind_eq_some_iff.1 h
   cases t1 with
   | false =>
    rw [if_neg (by decide)] at h
    obtain rfl := Option.some.inj h
    go_enter Try.func16, Try.ntmps16
    go_wp2_with (first | (go_at_call 63; with_reducible refine (laws_eqLeg.calls a0_2 a0_3 a0_4 a0_5 a0_6 a1_2 a1_3 a1_4 a1_5 a1_6 _ _ h1).mono ?_; rintro e w1 ⟨rfl, k1⟩; have K1 := Aside0.mk (below_step B0.out k1); clear k1))
    go_ret
    exact ⟨rfl, K1.out⟩
   | true =>
    rw [if_pos rfl] at h
    obtain ⟨t2, h2, h⟩ := Option.bind_eq_some_iff.1 h
    cases t2 with
    | false =>
     rw [if_neg (by decide)] at h
     obtain rfl := Option.some.inj h
     go_enter Try.func16, Try.ntmps16
     go_wp2_with (first | (go_at_call 63; with_reducible refine (laws_eqLeg.calls a0_2 a0_3 a0_4 a0_5 a0_6 a1_2 a1_3 a1_4 a1_5 a1_6 _ _ h1).mono ?_; rintro e w1 ⟨rfl, k1⟩; have K1 := Aside0.mk (below_step B0.out k1); have E1 := blk_below D1.out k1; have E2 := blk_below D2.out k1; have x7 := (blk_cell E1 7).trans rfl; have y7 := (blk_cell E2 7).trans rfl; have x8 := (blk_cell E1 8).trans rfl; have y8 := (blk_cell E2 8).trans rfl; have x9 := (blk_cell E1 9).trans rfl; have y9 := (blk_cell E2 9).trans rfl; have x10 := (blk_cell E1 10).trans rfl; have y10 := (blk_cell E2 10).trans rfl; have x11 := (blk_cell E1 11).trans rfl; have y11 := (blk_cell E2 11).trans rfl; clear E1 E2; clear k1) | (go_at_call 63; with_reducible refine (laws_eqLeg.calls a0_7 a0_8 a0_9 a0_10 a0_11 a1_7 a1_8 a1_9 a1_10 a1_11 _ _ h2).mono ?_; rintro e w2 ⟨rfl, k2⟩; have K2 := Aside0.mk (below_step K1.out k2); clear k2))
     go_ret
     exact ⟨rfl, K2.out⟩
    | true =>
     rw [if_pos rfl] at h
     obtain rfl := Option.some.inj h
     go_enter Try.func16, Try.ntmps16
     go_wp2_with (first | (go_at_call 63; with_reducible refine (laws_eqLeg.calls a0_2 a0_3 a0_4 a0_5 a0_6 a1_2 a1_3 a1_4 a1_5 a1_6 _ _ h1).mono ?_; rintro e w1 ⟨rfl, k1⟩; have K1 := Aside0.mk (below_step B0.out k1); have E1 := blk_below D1.out k1; have E2 := blk_below D2.out k1; have x7 := (blk_cell E1 7).trans rfl; have y7 := (blk_cell E2 7).trans rfl; have x8 := (blk_cell E1 8).trans rfl; have y8 := (blk_cell E2 8).trans rfl; have x9 := (blk_cell E1 9).trans rfl; have y9 := (blk_cell E2 9).trans rfl; have x10 := (blk_cell E1 10).trans rfl; have y10 := (blk_cell E2 10).trans rfl; have x11 := (blk_cell E1 11).trans rfl; have y11 := (blk_cell E2 11).trans rfl; clear E1 E2; clear k1) | (go_at_call 63; with_reducible refine (laws_eqLeg.calls a0_7 a0_8 a0_9 a0_10 a0_11 a1_7 a1_8 a1_9 a1_10 a1_11 _ _ h2).mono ?_; rintro e w2 ⟨rfl, k2⟩; have K2 := Aside0.mk (below_step K1.out k2); clear k2))
     go_ret
     exact ⟨rfl, K2.out⟩
  ·rw [if_neg c1] at h
   have e1 := bne_iff_ne.mpr c1
   clear c1
   obtain rfl := Option.some.inj h
   go_enter Try.func16, Try.ntmps16
   go_wp2
   go_ret
   exact ⟨rfl, by repeat (first | exact Below.refl _ _ | apply below_alloc)⟩
 ·rw [if_neg c0] at h
  have e0 := bne_iff_ne.mpr c0
  clear c0
  obtain rfl := Option.some.inj h
  go_enter Try.func16, Try.ntmps16
  go_wp2
  go_ret
  exact ⟨rfl, by repeat (first | exact Below.refl _ _ | apply below_alloc)⟩

/-! ### laws_eqEditS: function 21 -/
def laws_eqEditS.l0 : Nat → List (S28) → List (S28) → Int → Option (Bool)
 | 0, _, _, _ => none
 | k + 1, x0, x1, x5 => if x5 < (x0.length : Int) then (if 0 ≤ x5 then (if x5 < (x1.length : Int) then ((laws_eqEdit.f ((rd_T28 x0 x5).f0) ((rd_T28 x0 x5).f1) ((rd_T28 x0 x5).f2.f0) ((rd_T28 x0 x5).f2.f1) ((rd_T28 x0 x5).f2.f2) ((rd_T28 x0 x5).f2.f3) ((rd_T28 x0 x5).f2.f4) ((rd_T28 x0 x5).f3.f0) ((rd_T28 x0 x5).f3.f1) ((rd_T28 x0 x5).f3.f2) ((rd_T28 x0 x5).f3.f3) ((rd_T28 x0 x5).f3.f4) ((rd_T28 x1 x5).f0) ((rd_T28 x1 x5).f1) ((rd_T28 x1 x5).f2.f0) ((rd_T28 x1 x5).f2.f1) ((rd_T28 x1 x5).f2.f2) ((rd_T28 x1 x5).f2.f3) ((rd_T28 x1 x5).f2.f4) ((rd_T28 x1 x5).f3.f0) ((rd_T28 x1 x5).f3.f1) ((rd_T28 x1 x5).f3.f2) ((rd_T28 x1 x5).f3.f3) ((rd_T28 x1 x5).f3.f4)).bind fun t116 => (if t116 = true then (laws_eqEditS.l0 k x0 x1 (wrap64 (x5 + 1))) else (some false))) else (none)) else (none)) else (some true)
def laws_eqEditS.f (k : Nat) (l0 : List (S28)) (l1 : List (S28)) : Option (Bool) := if (l0.length : Int) = (l1.length : Int) then (laws_eqEditS.l0 k l0 l1 0) else (some false)
theorem laws_eqEditS.mono_l : ∀ k, (∀ y0 y1 y2, LeO (laws_eqEditS.l0 k y0 y1 y2) (laws_eqEditS.l0 (k + 1) y0 y1 y2))
 | 0 => fun _ _ _ r h => by simp [laws_eqEditS.l0] at h
 | k + 1 => by
  have ih0 := laws_eqEditS.mono_l k
  ·intro y0 y1 y2
   unfold laws_eqEditS.l0
   repeat' with_reducible first | apply ih0 | exact LeO.refl _ | exact LeO.none _ | refine LeO.ite ?_ ?_ | refine LeO.bind ?_ (fun _ => ?_)
theorem laws_eqEditS.mono : ∀ a0 a1 k, LeO (laws_eqEditS.f k a0 a1) (laws_eqEditS.f (k + 1) a0 a1) := by
 intro a0 a1 k
 have ih0 := laws_eqEditS.mono_l k
 unfold laws_eqEditS.f
 repeat' with_reducible first | apply ih0 | exact LeO.refl _ | exact LeO.none _ | refine LeO.ite ?_ ?_ | refine LeO.bind ?_ (fun _ => ?_)
def laws_eqEditS.T6 : Bool × List (List Nat × List Nat) := (true, [([], []), ([], []), ([0, 1], [0, 1]), ([2], [2]), ([], []), ([], []), ([4, 5], [4, 5]), ([6], [6]), ([3, 7], [3, 7]), ([8], [8])])
def laws_eqEditS.B6 : List Nat := [0, 0, 3, 7, 0, 0, 48, 112, 255, 511]
theorem laws_eqEditS.tab6 : rtab .any (opsOf Try.f21 6) = laws_eqEditS.T6 := by kernel_rfl
theorem laws_eqEditS.bits6 : waitsOk laws_eqEditS.T6.2 laws_eqEditS.B6 = true := by kernel_rfl
set_option maxHeartbeats 8000000 in
set_option maxRecDepth 100000 in
theorem laws_eqEditS.calls (k : Nat) (A0 : Option Addr) (c0 : Nat) (l0 : List (S28)) (A1 : Option Addr) (c1 : Nat) (l1 : List (S28)) (r : Bool) (w : World) (hr0 : Kd.C k28 w A0 l0.length l0) (hc0 : l0.length ≤ c0) (hr1 : Kd.C k28 w A1 l1.length l1) (hc1 : l1.length ≤ c1) (h : laws_eqEditS.f k l0 l1 = some r) :
  Calls Try.prog 21 #[.slice A0 l0.length c0, .slice A1 l1.length c1] w fun e w' => e = .returned (.bool r) ∧ Below w.heap.size w w' := by
 have hu28 := Try.underlying28
 have HR0 := Aside0.mk hr0
 have HC0 := Aside0.mk hc0
 clear hr0 hc0
 have HR1 := Aside0.mk hr1
 have HC1 := Aside0.mk hc1
 clear hr1 hc1
 have HB := Aside0.mk (Below.refl w.heap.size w)
 have H := h
 clear h
 unfold laws_eqEditS.f at H
 replace H := ifI H
 rcases H with ⟨H, c3, c3b0, c3b1⟩ | ⟨H, c3, c3b0, c3b1⟩
 ·have c3b2 : (l0.length == l1.length) = true := by first | simpa using c3 | (simp at c3 ⊢; omega)
  clear c3
  have H' := Aside0.mk H
  clear H
  go_enter Try.func21, Try.ntmps21
  go_wp2
  go_loopg [5] k (fun kq v5 w' => ∃ (x5_1 : Int), v5 = .int .i64 x5_1 ∧ Aside0 (laws_eqEditS.l0 kq l0 l1 x5_1 = some r) ∧ Aside0 (kq ≤ k) ∧ Aside0 (Below w.heap.size w w'))
  case atStart => exact ⟨(0), rB, H', ⟨Nat.le_refl _⟩, (aB HB)⟩
  case round =>
   clear H'
   try clear c1
   try clear c3
   try clear c3b0
   try clear c3b1
   try clear c3b2
   obtain ⟨x5_1, rfl, HA, HK1, HB⟩ := hrel
   cases gk with
   | zero => exact absurd HA.out (by simp [laws_eqEditS.l0])
   | succ k1 =>
    have H := HA.out
    clear HA
    simp only [laws_eqEditS.l0] at H
    replace H := ifD H
    rcases H with ⟨H, -, c4b0⟩ | ⟨H, -, c4b0⟩
    ·by_cases c5 : 0 ≤ x5_1
     ·rw [if_pos c5] at H
      have c5b0 : decide (0 ≤ x5_1) = true := decide_eq_true c5
      clear c5
      by_cases c6 : x5_1 < (l1.length : Int)
      ·rw [if_pos c6] at H
       have c6b0 : decide (x5_1 < (l1.length : Int)) = true := decide_eq_true c6
       clear c6
       replace H := bA H
       obtain ⟨t116, A7, H⟩ := H
       rcases Bool.eq_false_or_eq_true t116 with rfl | rfl
       ·replace H := iT rfl H
        have H' := Aside0.mk H
        clear H
        try go_wp2
        replace HB := Aside0.mk (below_drew1 HB.out)
        have p114 : 0 ≤ (x5_1 : Int) := of_decide_eq_true asmB
        have q114 : x5_1 < (l0.length : Int) := of_decide_eq_true asmB
        obtain ⟨ad114, e114, hx114_0, hx114_1, hx114_2, hx114_3, hx114_4, hx114_5, hx114_6, hx114_7, hx114_8, hx114_9, hx114_10, hx114_11⟩ := at_T28 HR0.out x5_1 p114 q114
        have hw114_11 := hx114_11
        have hw114_10 := hx114_10
        have hw114_9 := hx114_9
        have hw114_8 := hx114_8
        have hw114_7 := hx114_7
        have hw114_6 := hx114_6
        have hw114_5 := hx114_5
        have hw114_4 := hx114_4
        have hw114_3 := hx114_3
        have hw114_2 := hx114_2
        have hw114_1 := hx114_1
        have hw114_0 := hx114_0
        cases e114
        replace hx114_0 := bx HB.out hx114_0
        replace hx114_1 := bx HB.out hx114_1
        replace hx114_2 := bx HB.out hx114_2
        replace hx114_3 := bx HB.out hx114_3
        replace hx114_4 := bx HB.out hx114_4
        replace hx114_5 := bx HB.out hx114_5
        replace hx114_6 := bx HB.out hx114_6
        replace hx114_7 := bx HB.out hx114_7
        replace hx114_8 := bx HB.out hx114_8
        replace hx114_9 := bx HB.out hx114_9
        replace hx114_10 := bx HB.out hx114_10
        replace hx114_11 := bx HB.out hx114_11
        replace p114 := eq_true p114
        replace q114 := eq_true q114
        have p115 : 0 ≤ (x5_1 : Int) := of_decide_eq_true asmB
        have q115 : x5_1 < (l1.length : Int) := of_decide_eq_true asmB
        obtain ⟨ad115, e115, hx115_0, hx115_1, hx115_2, hx115_3, hx115_4, hx115_5, hx115_6, hx115_7, hx115_8, hx115_9, hx115_10, hx115_11⟩ := at_T28 HR1.out x5_1 p115 q115
        have hw115_11 := hx115_11
        have hw115_10 := hx115_10
        have hw115_9 := hx115_9
        have hw115_8 := hx115_8
        have hw115_7 := hx115_7
        have hw115_6 := hx115_6
        have hw115_5 := hx115_5
        have hw115_4 := hx115_4
        have hw115_3 := hx115_3
        have hw115_2 := hx115_2
        have hw115_1 := hx115_1
        have hw115_0 := hx115_0
        cases e115
        replace hx115_0 := bx HB.out hx115_0
        replace hx115_1 := bx HB.out hx115_1
        replace hx115_2 := bx HB.out hx115_2
        replace hx115_3 := bx HB.out hx115_3
        replace hx115_4 := bx HB.out hx115_4
        replace hx115_5 := bx HB.out hx115_5
        replace hx115_6 := bx HB.out hx115_6
        replace hx115_7 := bx HB.out hx115_7
        replace hx115_8 := bx HB.out hx115_8
        replace hx115_9 := bx HB.out hx115_9
        replace hx115_10 := bx HB.out hx115_10
        replace hx115_11 := bx HB.out hx115_11
        replace p115 := eq_true p115
        replace q115 := eq_true q115
        refine sA (n := 10) (S := fun w' => w'.cell? (ad114.add ((x5_1).toNat * 12)) = some (.int .i64 ((rd_T28 l0 x5_1).f0)) ∧ w'.cell? ⟨(ad114.add ((x5_1).toNat * 12)).block, (ad114.add ((x5_1).toNat * 12)).off + 1, none⟩ = some (.int .i64 ((rd_T28 l0 x5_1).f1)) ∧ w'.cell? ⟨(ad114.add ((x5_1).toNat * 12)).block, (ad114.add ((x5_1).toNat * 12)).off + 2, none⟩ = some (.int .i64 ((rd_T28 l0 x5_1).f2.f0)) ∧ w'.cell? ⟨(ad114.add ((x5_1).toNat * 12)).block, (ad114.add ((x5_1).toNat * 12)).off + 3, none⟩ = some (.int .i64 ((rd_T28 l0 x5_1).f2.f1)) ∧ w'.cell? ⟨(ad114.add ((x5_1).toNat * 12)).block, (ad114.add ((x5_1).toNat * 12)).off + 4, none⟩ = some (.int .i64 ((rd_T28 l0 x5_1).f2.f2)) ∧ w'.cell? ⟨(ad114.add ((x5_1).toNat * 12)).block, (ad114.add ((x5_1).toNat * 12)).off + 5, none⟩ = some (.int .i64 ((rd_T28 l0 x5_1).f2.f3)) ∧ w'.cell? ⟨(ad114.add ((x5_1).toNat * 12)).block, (ad114.add ((x5_1).toNat * 12)).off + 6, none⟩ = some (.int .i64 ((rd_T28 l0 x5_1).f2.f4)) ∧ w'.cell? ⟨(ad114.add ((x5_1).toNat * 12)).block, (ad114.add ((x5_1).toNat * 12)).off + 7, none⟩ = some (.int .i64 ((rd_T28 l0 x5_1).f3.f0)) ∧ w'.cell? ⟨(ad114.add ((x5_1).toNat * 12)).block, (ad114.add ((x5_1).toNat * 12)).off + 8, none⟩ = some (.int .i64 ((rd_T28 l0 x5_1).f3.f1)) ∧ w'.cell? ⟨(ad114.add ((x5_1).toNat * 12)).block, (ad114.add ((x5_1).toNat * 12)).off + 9, none⟩ = some (.int .i64 ((rd_T28 l0 x5_1).f3.f2)) ∧ w'.cell? ⟨(ad114.add ((x5_1).toNat * 12)).block, (ad114.add ((x5_1).toNat * 12)).off + 10, none⟩ = some (.int .i64 ((rd_T28 l0 x5_1).f3.f3)) ∧ w'.cell? ⟨(ad114.add ((x5_1).toNat * 12)).block, (ad114.add ((x5_1).toNat * 12)).off + 11, none⟩ = some (.int .i64 ((rd_T28 l0 x5_1).f3.f4)) ∧ w'.cell? (ad115.add ((x5_1).toNat * 12)) = some (.int .i64 ((rd_T28 l1 x5_1).f0)) ∧ w'.cell? ⟨(ad115.add ((x5_1).toNat * 12)).block, (ad115.add ((x5_1).toNat * 12)).off + 1, none⟩ = some (.int .i64 ((rd_T28 l1 x5_1).f1)) ∧ w'.cell? ⟨(ad115.add ((x5_1).toNat * 12)).block, (ad115.add ((x5_1).toNat * 12)).off + 2, none⟩ = some (.int .i64 ((rd_T28 l1 x5_1).f2.f0)) ∧ w'.cell? ⟨(ad115.add ((x5_1).toNat * 12)).block, (ad115.add ((x5_1).toNat * 12)).off + 3, none⟩ = some (.int .i64 ((rd_T28 l1 x5_1).f2.f1)) ∧ w'.cell? ⟨(ad115.add ((x5_1).toNat * 12)).block, (ad115.add ((x5_1).toNat * 12)).off + 4, none⟩ = some (.int .i64 ((rd_T28 l1 x5_1).f2.f2)) ∧ w'.cell? ⟨(ad115.add ((x5_1).toNat * 12)).block, (ad115.add ((x5_1).toNat * 12)).off + 5, none⟩ = some (.int .i64 ((rd_T28 l1 x5_1).f2.f3)) ∧ w'.cell? ⟨(ad115.add ((x5_1).toNat * 12)).block, (ad115.add ((x5_1).toNat * 12)).off + 6, none⟩ = some (.int .i64 ((rd_T28 l1 x5_1).f2.f4)) ∧ w'.cell? ⟨(ad115.add ((x5_1).toNat * 12)).block, (ad115.add ((x5_1).toNat * 12)).off + 7, none⟩ = some (.int .i64 ((rd_T28 l1 x5_1).f3.f0)) ∧ w'.cell? ⟨(ad115.add ((x5_1).toNat * 12)).block, (ad115.add ((x5_1).toNat * 12)).off + 8, none⟩ = some (.int .i64 ((rd_T28 l1 x5_1).f3.f1)) ∧ w'.cell? ⟨(ad115.add ((x5_1).toNat * 12)).block, (ad115.add ((x5_1).toNat * 12)).off + 9, none⟩ = some (.int .i64 ((rd_T28 l1 x5_1).f3.f2)) ∧ w'.cell? ⟨(ad115.add ((x5_1).toNat * 12)).block, (ad115.add ((x5_1).toNat * 12)).off + 10, none⟩ = some (.int .i64 ((rd_T28 l1 x5_1).f3.f3)) ∧ w'.cell? ⟨(ad115.add ((x5_1).toNat * 12)).block, (ad115.add ((x5_1).toNat * 12)).off + 11, none⟩ = some (.int .i64 ((rd_T28 l1 x5_1).f3.f4))) (ds := []) laws_eqEditS.tab6 laws_eqEditS.bits6 #[false, false, false, false, false, false, false, false, false, false] ⟨(bX HB hw114_0), (bX HB hw114_1), (bX HB hw114_2), (bX HB hw114_3), (bX HB hw114_4), (bX HB hw114_5), (bX HB hw114_6), (bX HB hw114_7), (bX HB hw114_8), (bX HB hw114_9), (bX HB hw114_10), (bX HB hw114_11), (bX HB hw115_0), (bX HB hw115_1), (bX HB hw115_2), (bX HB hw115_3), (bX HB hw115_4), (bX HB hw115_5), (bX HB hw115_6), (bX HB hw115_7), (bX HB hw115_8), (bX HB hw115_9), (bX HB hw115_10), (bX HB hw115_11)⟩ fun hHeld HT_ HW_ => ?_
        generalize wr.drew = w9 at HB hx114_0 hx114_1 hx114_10 hx114_11 hx114_2 hx114_3 hx114_4 hx114_5 hx114_6 hx114_7 hx114_8 hx114_9 hx115_0 hx115_1 hx115_10 hx115_11 hx115_2 hx115_3 hx115_4 hx115_5 hx115_6 hx115_7 hx115_8 hx115_9 hHeld ⊢
        refine pA 0 17 HT_ ?_
        refine pA 1 18 HT_ ?_
        refine pA 2 19 HT_ ?_
        refine pA 4 21 HT_ ?_
        refine pA 5 22 HT_ ?_
        refine pA 6 23 HT_ ?_
        refine tA 3 20 HT_ HW_ hHeld ?_
        refine tA 7 24 HT_ HW_ hHeld ?_
        refine oA 8 (some 25) HT_ fun K hK => ?_
        refine rA Try.func16 (laws_eqEdit.calls ((rd_T28 l0 x5_1).f0) ((rd_T28 l0 x5_1).f1) ((rd_T28 l0 x5_1).f2.f0) ((rd_T28 l0 x5_1).f2.f1) ((rd_T28 l0 x5_1).f2.f2) ((rd_T28 l0 x5_1).f2.f3) ((rd_T28 l0 x5_1).f2.f4) ((rd_T28 l0 x5_1).f3.f0) ((rd_T28 l0 x5_1).f3.f1) ((rd_T28 l0 x5_1).f3.f2) ((rd_T28 l0 x5_1).f3.f3) ((rd_T28 l0 x5_1).f3.f4) ((rd_T28 l1 x5_1).f0) ((rd_T28 l1 x5_1).f1) ((rd_T28 l1 x5_1).f2.f0) ((rd_T28 l1 x5_1).f2.f1) ((rd_T28 l1 x5_1).f2.f2) ((rd_T28 l1 x5_1).f2.f3) ((rd_T28 l1 x5_1).f2.f4) ((rd_T28 l1 x5_1).f3.f0) ((rd_T28 l1 x5_1).f3.f1) ((rd_T28 l1 x5_1).f3.f2) ((rd_T28 l1 x5_1).f3.f3) ((rd_T28 l1 x5_1).f3.f4) true _ A7.out) ?_
        intro w10 hb
        replace HB := uB HB hb
        (try clear hb)
        refine hK.out _ _ ⟨(bX HB hw114_0), (bX HB hw114_1), (bX HB hw114_2), (bX HB hw114_3), (bX HB hw114_4), (bX HB hw114_5), (bX HB hw114_6), (bX HB hw114_7), (bX HB hw114_8), (bX HB hw114_9), (bX HB hw114_10), (bX HB hw114_11), (bX HB hw115_0), (bX HB hw115_1), (bX HB hw115_2), (bX HB hw115_3), (bX HB hw115_4), (bX HB hw115_5), (bX HB hw115_6), (bX HB hw115_7), (bX HB hw115_8), (bX HB hw115_9), (bX HB hw115_10), (bX HB hw115_11)⟩ (fun hHeld => ?_)
        clear hK K
        refine nA ?_ (some 25)
        refine pA 9 26 HT_ ?_
        refine done_ (done_of HT_.out (by kernel_rfl)) ?_
        try go_wp2
        go_roundg k1
        case measure => have := HK1.out; omega
        case rel => exact ⟨(wrap64 (x5_1 + 1)), rB, H', ⟨by have := HK1.out; omega⟩, (aB HB)⟩
       ·replace H := iF (by decide) H
        obtain rfl := Option.some.inj H
        try go_wp2
        replace HB := Aside0.mk (below_drew1 HB.out)
        have p114 : 0 ≤ (x5_1 : Int) := of_decide_eq_true asmB
        have q114 : x5_1 < (l0.length : Int) := of_decide_eq_true asmB
        obtain ⟨ad114, e114, hx114_0, hx114_1, hx114_2, hx114_3, hx114_4, hx114_5, hx114_6, hx114_7, hx114_8, hx114_9, hx114_10, hx114_11⟩ := at_T28 HR0.out x5_1 p114 q114
        have hw114_11 := hx114_11
        have hw114_10 := hx114_10
        have hw114_9 := hx114_9
        have hw114_8 := hx114_8
        have hw114_7 := hx114_7
        have hw114_6 := hx114_6
        have hw114_5 := hx114_5
        have hw114_4 := hx114_4
        have hw114_3 := hx114_3
        have hw114_2 := hx114_2
        have hw114_1 := hx114_1
        have hw114_0 := hx114_0
        cases e114
        replace hx114_0 := bx HB.out hx114_0
        replace hx114_1 := bx HB.out hx114_1
        replace hx114_2 := bx HB.out hx114_2
        replace hx114_3 := bx HB.out hx114_3
        replace hx114_4 := bx HB.out hx114_4
        replace hx114_5 := bx HB.out hx114_5
        replace hx114_6 := bx HB.out hx114_6
        replace hx114_7 := bx HB.out hx114_7
        replace hx114_8 := bx HB.out hx114_8
        replace hx114_9 := bx HB.out hx114_9
        replace hx114_10 := bx HB.out hx114_10
        replace hx114_11 := bx HB.out hx114_11
        replace p114 := eq_true p114
        replace q114 := eq_true q114
        have p115 : 0 ≤ (x5_1 : Int) := of_decide_eq_true asmB
        have q115 : x5_1 < (l1.length : Int) := of_decide_eq_true asmB
        obtain ⟨ad115, e115, hx115_0, hx115_1, hx115_2, hx115_3, hx115_4, hx115_5, hx115_6, hx115_7, hx115_8, hx115_9, hx115_10, hx115_11⟩ := at_T28 HR1.out x5_1 p115 q115
        have hw115_11 := hx115_11
        have hw115_10 := hx115_10
        have hw115_9 := hx115_9
        have hw115_8 := hx115_8
        have hw115_7 := hx115_7
        have hw115_6 := hx115_6
        have hw115_5 := hx115_5
        have hw115_4 := hx115_4
        have hw115_3 := hx115_3
        have hw115_2 := hx115_2
        have hw115_1 := hx115_1
        have hw115_0 := hx115_0
        cases e115
        replace hx115_0 := bx HB.out hx115_0
        replace hx115_1 := bx HB.out hx115_1
        replace hx115_2 := bx HB.out hx115_2
        replace hx115_3 := bx HB.out hx115_3
        replace hx115_4 := bx HB.out hx115_4
        replace hx115_5 := bx HB.out hx115_5
        replace hx115_6 := bx HB.out hx115_6
        replace hx115_7 := bx HB.out hx115_7
        replace hx115_8 := bx HB.out hx115_8
        replace hx115_9 := bx HB.out hx115_9
        replace hx115_10 := bx HB.out hx115_10
        replace hx115_11 := bx HB.out hx115_11
        replace p115 := eq_true p115
        replace q115 := eq_true q115
        refine sA (n := 10) (S := fun w' => w'.cell? (ad114.add ((x5_1).toNat * 12)) = some (.int .i64 ((rd_T28 l0 x5_1).f0)) ∧ w'.cell? ⟨(ad114.add ((x5_1).toNat * 12)).block, (ad114.add ((x5_1).toNat * 12)).off + 1, none⟩ = some (.int .i64 ((rd_T28 l0 x5_1).f1)) ∧ w'.cell? ⟨(ad114.add ((x5_1).toNat * 12)).block, (ad114.add ((x5_1).toNat * 12)).off + 2, none⟩ = some (.int .i64 ((rd_T28 l0 x5_1).f2.f0)) ∧ w'.cell? ⟨(ad114.add ((x5_1).toNat * 12)).block, (ad114.add ((x5_1).toNat * 12)).off + 3, none⟩ = some (.int .i64 ((rd_T28 l0 x5_1).f2.f1)) ∧ w'.cell? ⟨(ad114.add ((x5_1).toNat * 12)).block, (ad114.add ((x5_1).toNat * 12)).off + 4, none⟩ = some (.int .i64 ((rd_T28 l0 x5_1).f2.f2)) ∧ w'.cell? ⟨(ad114.add ((x5_1).toNat * 12)).block, (ad114.add ((x5_1).toNat * 12)).off + 5, none⟩ = some (.int .i64 ((rd_T28 l0 x5_1).f2.f3)) ∧ w'.cell? ⟨(ad114.add ((x5_1).toNat * 12)).block, (ad114.add ((x5_1).toNat * 12)).off + 6, none⟩ = some (.int .i64 ((rd_T28 l0 x5_1).f2.f4)) ∧ w'.cell? ⟨(ad114.add ((x5_1).toNat * 12)).block, (ad114.add ((x5_1).toNat * 12)).off + 7, none⟩ = some (.int .i64 ((rd_T28 l0 x5_1).f3.f0)) ∧ w'.cell? ⟨(ad114.add ((x5_1).toNat * 12)).block, (ad114.add ((x5_1).toNat * 12)).off + 8, none⟩ = some (.int .i64 ((rd_T28 l0 x5_1).f3.f1)) ∧ w'.cell? ⟨(ad114.add ((x5_1).toNat * 12)).block, (ad114.add ((x5_1).toNat * 12)).off + 9, none⟩ = some (.int .i64 ((rd_T28 l0 x5_1).f3.f2)) ∧ w'.cell? ⟨(ad114.add ((x5_1).toNat * 12)).block, (ad114.add ((x5_1).toNat * 12)).off + 10, none⟩ = some (.int .i64 ((rd_T28 l0 x5_1).f3.f3)) ∧ w'.cell? ⟨(ad114.add ((x5_1).toNat * 12)).block, (ad114.add ((x5_1).toNat * 12)).off + 11, none⟩ = some (.int .i64 ((rd_T28 l0 x5_1).f3.f4)) ∧ w'.cell? (ad115.add ((x5_1).toNat * 12)) = some (.int .i64 ((rd_T28 l1 x5_1).f0)) ∧ w'.cell? ⟨(ad115.add ((x5_1).toNat * 12)).block, (ad115.add ((x5_1).toNat * 12)).off + 1, none⟩ = some (.int .i64 ((rd_T28 l1 x5_1).f1)) ∧ w'.cell? ⟨(ad115.add ((x5_1).toNat * 12)).block, (ad115.add ((x5_1).toNat * 12)).off + 2, none⟩ = some (.int .i64 ((rd_T28 l1 x5_1).f2.f0)) ∧ w'.cell? ⟨(ad115.add ((x5_1).toNat * 12)).block, (ad115.add ((x5_1).toNat * 12)).off + 3, none⟩ = some (.int .i64 ((rd_T28 l1 x5_1).f2.f1)) ∧ w'.cell? ⟨(ad115.add ((x5_1).toNat * 12)).block, (ad115.add ((x5_1).toNat * 12)).off + 4, none⟩ = some (.int .i64 ((rd_T28 l1 x5_1).f2.f2)) ∧ w'.cell? ⟨(ad115.add ((x5_1).toNat * 12)).block, (ad115.add ((x5_1).toNat * 12)).off + 5, none⟩ = some (.int .i64 ((rd_T28 l1 x5_1).f2.f3)) ∧ w'.cell? ⟨(ad115.add ((x5_1).toNat * 12)).block, (ad115.add ((x5_1).toNat * 12)).off + 6, none⟩ = some (.int .i64 ((rd_T28 l1 x5_1).f2.f4)) ∧ w'.cell? ⟨(ad115.add ((x5_1).toNat * 12)).block, (ad115.add ((x5_1).toNat * 12)).off + 7, none⟩ = some (.int .i64 ((rd_T28 l1 x5_1).f3.f0)) ∧ w'.cell? ⟨(ad115.add ((x5_1).toNat * 12)).block, (ad115.add ((x5_1).toNat * 12)).off + 8, none⟩ = some (.int .i64 ((rd_T28 l1 x5_1).f3.f1)) ∧ w'.cell? ⟨(ad115.add ((x5_1).toNat * 12)).block, (ad115.add ((x5_1).toNat * 12)).off + 9, none⟩ = some (.int .i64 ((rd_T28 l1 x5_1).f3.f2)) ∧ w'.cell? ⟨(ad115.add ((x5_1).toNat * 12)).block, (ad115.add ((x5_1).toNat * 12)).off + 10, none⟩ = some (.int .i64 ((rd_T28 l1 x5_1).f3.f3)) ∧ w'.cell? ⟨(ad115.add ((x5_1).toNat * 12)).block, (ad115.add ((x5_1).toNat * 12)).off + 11, none⟩ = some (.int .i64 ((rd_T28 l1 x5_1).f3.f4))) (ds := []) laws_eqEditS.tab6 laws_eqEditS.bits6 #[false, false, false, false, false, false, false, false, false, false] ⟨(bX HB hw114_0), (bX HB hw114_1), (bX HB hw114_2), (bX HB hw114_3), (bX HB hw114_4), (bX HB hw114_5), (bX HB hw114_6), (bX HB hw114_7), (bX HB hw114_8), (bX HB hw114_9), (bX HB hw114_10), (bX HB hw114_11), (bX HB hw115_0), (bX HB hw115_1), (bX HB hw115_2), (bX HB hw115_3), (bX HB hw115_4), (bX HB hw115_5), (bX HB hw115_6), (bX HB hw115_7), (bX HB hw115_8), (bX HB hw115_9), (bX HB hw115_10), (bX HB hw115_11)⟩ fun hHeld HT_ HW_ => ?_
        generalize wr.drew = w11 at HB hx114_0 hx114_1 hx114_10 hx114_11 hx114_2 hx114_3 hx114_4 hx114_5 hx114_6 hx114_7 hx114_8 hx114_9 hx115_0 hx115_1 hx115_10 hx115_11 hx115_2 hx115_3 hx115_4 hx115_5 hx115_6 hx115_7 hx115_8 hx115_9 hHeld ⊢
        refine pA 0 17 HT_ ?_
        refine pA 1 18 HT_ ?_
        refine pA 2 19 HT_ ?_
        refine pA 4 21 HT_ ?_
        refine pA 5 22 HT_ ?_
        refine pA 6 23 HT_ ?_
        refine tA 3 20 HT_ HW_ hHeld ?_
        refine tA 7 24 HT_ HW_ hHeld ?_
        refine oA 8 (some 25) HT_ fun K hK => ?_
        refine rA Try.func16 (laws_eqEdit.calls ((rd_T28 l0 x5_1).f0) ((rd_T28 l0 x5_1).f1) ((rd_T28 l0 x5_1).f2.f0) ((rd_T28 l0 x5_1).f2.f1) ((rd_T28 l0 x5_1).f2.f2) ((rd_T28 l0 x5_1).f2.f3) ((rd_T28 l0 x5_1).f2.f4) ((rd_T28 l0 x5_1).f3.f0) ((rd_T28 l0 x5_1).f3.f1) ((rd_T28 l0 x5_1).f3.f2) ((rd_T28 l0 x5_1).f3.f3) ((rd_T28 l0 x5_1).f3.f4) ((rd_T28 l1 x5_1).f0) ((rd_T28 l1 x5_1).f1) ((rd_T28 l1 x5_1).f2.f0) ((rd_T28 l1 x5_1).f2.f1) ((rd_T28 l1 x5_1).f2.f2) ((rd_T28 l1 x5_1).f2.f3) ((rd_T28 l1 x5_1).f2.f4) ((rd_T28 l1 x5_1).f3.f0) ((rd_T28 l1 x5_1).f3.f1) ((rd_T28 l1 x5_1).f3.f2) ((rd_T28 l1 x5_1).f3.f3) ((rd_T28 l1 x5_1).f3.f4) false _ A7.out) ?_
        intro w12 hb
        replace HB := uB HB hb
        (try clear hb)
        refine hK.out _ _ ⟨(bX HB hw114_0), (bX HB hw114_1), (bX HB hw114_2), (bX HB hw114_3), (bX HB hw114_4), (bX HB hw114_5), (bX HB hw114_6), (bX HB hw114_7), (bX HB hw114_8), (bX HB hw114_9), (bX HB hw114_10), (bX HB hw114_11), (bX HB hw115_0), (bX HB hw115_1), (bX HB hw115_2), (bX HB hw115_3), (bX HB hw115_4), (bX HB hw115_5), (bX HB hw115_6), (bX HB hw115_7), (bX HB hw115_8), (bX HB hw115_9), (bX HB hw115_10), (bX HB hw115_11)⟩ (fun hHeld => ?_)
        clear hK K
        refine nA ?_ (some 25)
        refine pA 9 26 HT_ ?_
        refine done_ (done_of HT_.out (by kernel_rfl)) ?_
        try go_wp2
        go_ret
        exact ⟨eB, (bW HB)⟩
      ·rw [if_neg c6] at H
       exact absurd H (by simp)
     ·rw [if_neg c5] at H
      exact absurd H (by simp)
    ·obtain rfl := Option.some.inj H
     go_wp2
     go_ret
     exact ⟨eB, (bW HB)⟩
 ·have c3b2 : (l0.length == l1.length) = false := by first | simpa using c3 | (simp at c3 ⊢; omega)
  obtain rfl := Option.some.inj H
  go_enter Try.func21, Try.ntmps21
  go_wp2
  go_ret
  exact ⟨eB, (bW HB)⟩

end Go.Proofs.Ytinelmmnajelaaa.QFnExactUndoEdits
