/- Contracts of Go functions that FnClubs reaches: the call computes what the plain function says. No condition. -/
import Derived.Test.YtfaojmabalplfaaQFnClubsx0
import Derived.Test.YtfaojmabalplfaaQFnClubsx4
namespace Go.Proofs.Ytfaojmabalplfaa.QFnClubs
open Go.RowKit Go.Proofs.YtfaojmabalplfaaW.PrintWords Go.Proofs.YtfaojmabalplfaaW.PrintLast Go.Proofs.YtfaojmabalplfaaW.PrintMore
attribute [local go_sem] max2_int min2_int max_two min_two max_three min_three max_four min_four   -- for this text's walks alone
set_option linter.unusedVariables false
set_option linter.unusedSimpArgs false

/-! ### impl_sharedLegs: function 63 -/
mutual
def impl_sharedLegs.l0 : Nat → List (S70) → List (S64) → List (S70) → Int → Int → Option ((List (S64)))
 | 0, _, _, _, _, _ => none
 | k + 1, x1, x7, x12, x13, x14 => if x14 < x13 then (if 0 ≤ x14 then (if x14 < (x12.length : Int) then (impl_sharedLegs.l1 k x1 x7 x14 x12 x13 x14 x1 (x1.length : Int) 0 ((rd_T70 x12 x14).f0) ((rd_T70 x12 x14).f1) ((rd_T70 x12 x14).f2) ((rd_T70 x12 x14).f3) ((rd_T70 x12 x14).f4)) else (none)) else (none)) else (some x7)
def impl_sharedLegs.l1 : Nat → List (S70) → List (S64) → Int → List (S70) → Int → Int → List (S70) → Int → Int → Int → Int → Int → Int → Int → Option ((List (S64)))
 | 0, _, _, _, _, _, _, _, _, _, _, _, _, _, _ => none
 | k + 1, x1, x7, x8, x12, x13, x14, x19, x20, x21, x167000, x167001, x167002, x167003, x167004 => if x21 < x20 then (if 0 ≤ x21 then (if x21 < (x19.length : Int) then ((impl_joins.f x167000 x167001 x167002 x167003 x167004 ((rd_T70 x19 x21).f0) ((rd_T70 x19 x21).f1) ((rd_T70 x19 x21).f2) ((rd_T70 x19 x21).f3) ((rd_T70 x19 x21).f4)).bind fun t169 => (if t169 = true then ((impl_SharedLegs_1.f x167000 x167001 x167002 x167003 x167004 ((rd_T70 x19 x21).f0) ((rd_T70 x19 x21).f1) ((rd_T70 x19 x21).f2) ((rd_T70 x19 x21).f3) ((rd_T70 x19 x21).f4)).bind fun t170 => (if t170 = true then (if x7.length < 8796093022208 then (impl_sharedLegs.l1 k x1 (x7 ++ [(⟨x8, x21⟩ : S64)]) x8 x12 x13 x14 x19 x20 (wrap64 (x21 + 1)) x167000 x167001 x167002 x167003 x167004) else (none)) else (impl_sharedLegs.l1 k x1 x7 x8 x12 x13 x14 x19 x20 (wrap64 (x21 + 1)) x167000 x167001 x167002 x167003 x167004))) else (impl_sharedLegs.l1 k x1 x7 x8 x12 x13 x14 x19 x20 (wrap64 (x21 + 1)) x167000 x167001 x167002 x167003 x167004))) else (none)) else (none)) else (impl_sharedLegs.l0 k x1 x7 x12 x13 (wrap64 (x14 + 1)))
end
def impl_sharedLegs.f (k : Nat) (l0 : List (S70)) (l1 : List (S70)) (a2 : Int) : Option ((List (S64))) := impl_sharedLegs.l0 k l1 ([] : List (S64)) l0 (l0.length : Int) 0
theorem impl_sharedLegs.mono_l : ∀ k, (∀ y0 y1 y2 y3 y4, LeO (impl_sharedLegs.l0 k y0 y1 y2 y3 y4) (impl_sharedLegs.l0 (k + 1) y0 y1 y2 y3 y4)) ∧ (∀ y0 y1 y2 y3 y4 y5 y6 y7 y8 y9 y10 y11 y12 y13, LeO (impl_sharedLegs.l1 k y0 y1 y2 y3 y4 y5 y6 y7 y8 y9 y10 y11 y12 y13) (impl_sharedLegs.l1 (k + 1) y0 y1 y2 y3 y4 y5 y6 y7 y8 y9 y10 y11 y12 y13))
 | 0 => ⟨fun _ _ _ _ _ r h => by simp [impl_sharedLegs.l0] at h, fun _ _ _ _ _ _ _ _ _ _ _ _ _ _ r h => by simp [impl_sharedLegs.l1] at h⟩
 | k + 1 => by
  obtain ⟨ih0, ih1⟩ := impl_sharedLegs.mono_l k
  refine ⟨?_, ?_⟩
  ·intro y0 y1 y2 y3 y4
   unfold impl_sharedLegs.l0
   repeat' with_reducible first | apply ih0 | apply ih1 | exact LeO.refl _ | exact LeO.none _ | refine LeO.ite ?_ ?_ | refine LeO.bind ?_ (fun _ => ?_)
  ·intro y0 y1 y2 y3 y4 y5 y6 y7 y8 y9 y10 y11 y12 y13
   unfold impl_sharedLegs.l1
   repeat' with_reducible first | apply ih0 | apply ih1 | exact LeO.refl _ | exact LeO.none _ | refine LeO.ite ?_ ?_ | refine LeO.bind ?_ (fun _ => ?_)
theorem impl_sharedLegs.mono : ∀ a0 a1 a2 k, LeO (impl_sharedLegs.f k a0 a1 a2) (impl_sharedLegs.f (k + 1) a0 a1 a2) := by
 intro a0 a1 a2 k
 obtain ⟨ih0, ih1⟩ := impl_sharedLegs.mono_l k
 unfold impl_sharedLegs.f
 repeat' with_reducible first | apply ih0 | apply ih1 | exact LeO.refl _ | exact LeO.none _ | refine LeO.ite ?_ ?_ | refine LeO.bind ?_ (fun _ => ?_)
set_option maxHeartbeats 8000000 in
set_option maxRecDepth 100000 in
theorem impl_sharedLegs.calls (k : Nat) (A0 : Option Addr) (c0 : Nat) (l0 : List (S70)) (A1 : Option Addr) (c1 : Nat) (l1 : List (S70)) (a2 : Int) (r : List (S64)) (w : World) (hr0 : Kd.C k70 w A0 l0.length l0) (hc0 : l0.length ≤ c0) (hr1 : Kd.C k70 w A1 l1.length l1) (hc1 : l1.length ≤ c1) (h : impl_sharedLegs.f k l0 l1 a2 = some r) :
  Calls Try.prog 63 #[.slice A0 l0.length c0, .slice A1 l1.length c1, .func (.func 64) #[] #[]] w fun e w' => ∃ v0_ : Value, e = .returned (v0_) ∧ Kd.R k64 64 w' w.heap.size (fun _ => True) v0_ r ∧ Below w.heap.size w w' := by
 have hu70 := Try.underlying70
 have hu64 := Try.underlying64
 have HR0 := Aside0.mk hr0
 have HC0 := Aside0.mk hc0
 clear hr0 hc0
 have HR1 := Aside0.mk hr1
 have HC1 := Aside0.mk hc1
 clear hr1 hc1
 have HB := Aside0.mk (Below.refl w.heap.size w)
 have H := h
 clear h
 unfold impl_sharedLegs.f at H
 have H' := Aside0.mk H
 clear H
 go_enter Try.func63, Try.ntmps63
 go_wp2
 go_loopg [7, 14] k (fun kq v7 v14 w' => ∃ (x7_1 : List (S64)) (x14_1 : Int), v14 = .int .i64 x14_1 ∧ Aside0 (impl_sharedLegs.l0 kq l1 x7_1 l0 (l0.length : Int) x14_1 = some r) ∧ Aside0 (kq ≤ k) ∧ Aside0 (Kd.R k64 64 w' w.heap.size (fun _ => True) v7 x7_1) ∧ Aside0 (Below w.heap.size w w'))
 case atStart => exact ⟨(([] : List (S64))), (0), rB, H', ⟨Nat.le_refl _⟩, ⟨by first | exact Kd.R_nil _ _ _ _ _ | exact Kd.N_nil _ _ _ _ _ | exact Kd.V_nil _ _ _ _ _ | exact Kd.Q_nil _ _ _ _ _ | exact Kd.S_nil _ _ _ _ _⟩, (aB HB)⟩
 case round =>
  clear H'
  try clear c1
  obtain ⟨x7_1, x14_1, rfl, HA, HK1, HO_7, HB⟩ := hrel
  cases gk with
  | zero => exact absurd HA.out (by simp [impl_sharedLegs.l0])
  | succ k1 =>
   have H := HA.out
   clear HA
   simp only [impl_sharedLegs.l0] at H
   replace H := ifD H
   rcases H with ⟨H, -, c4b0⟩ | ⟨H, -, c4b0⟩
   ·by_cases c5 : 0 ≤ x14_1
    ·rw [if_pos c5] at H
     have c5b0 : decide (0 ≤ x14_1) = true := decide_eq_true c5
     clear c5
     by_cases c6 : x14_1 < (l0.length : Int)
     ·rw [if_pos c6] at H
      have c6b0 : decide (x14_1 < (l0.length : Int)) = true := decide_eq_true c6
      clear c6
      have H' := Aside0.mk H
      clear H
      have p165 : 0 ≤ (x14_1 : Int) := of_decide_eq_true asmB
      have q165 : x14_1 < (l0.length : Int) := of_decide_eq_true asmB
      obtain ⟨ad165, e165, hx165_0, hx165_1, hx165_2, hx165_3, hx165_4⟩ := at_T70 HR0.out x14_1 p165 q165
      cases e165
      replace hx165_0 := bx HB.out hx165_0
      replace hx165_1 := bx HB.out hx165_1
      replace hx165_2 := bx HB.out hx165_2
      replace hx165_3 := bx HB.out hx165_3
      replace hx165_4 := bx HB.out hx165_4
      replace p165 := eq_true p165
      replace q165 := eq_true q165
      go_wp2_with (first | ((with_reducible refine gD 9 ?_); refine bxE 9 70 #[.int .i64 0, .int .i64 0, .int .i64 0, .int .i64 0, .int .i64 0] fun gb166 w7 hg hbox hb => ?_; have BK166 := Aside0.mk hbox; have GE166 := gB HB hg; replace HO_7 := uR HO_7 hb; replace HB := uB HB hb; clear hb hbox hg; have ⟨hcz8_0, hcz8_1, hcz8_2, hcz8_3, hcz8_4, hfz8_0⟩ := cz5 BK166))
      (try simp only [Act.put, List.setIfInBounds_toArray, List.set_cons_zero, List.set_cons_succ])
      go_loopg [7, 21] k1 (fun kq v7 v21 w' => ∃ (x7_2 : List (S64)) (x21_2 : Int), v21 = .int .i64 x21_2 ∧ Aside0 (impl_sharedLegs.l1 kq l1 x7_2 x14_1 l0 (l0.length : Int) x14_1 l1 (l1.length : Int) x21_2 ((rd_T70 l0 x14_1).f0) ((rd_T70 l0 x14_1).f1) ((rd_T70 l0 x14_1).f2) ((rd_T70 l0 x14_1).f3) ((rd_T70 l0 x14_1).f4) = some r) ∧ Aside0 (kq ≤ k1) ∧ Aside0 (Kd.R k64 64 w' w.heap.size (fun _ => True) v7 x7_2) ∧ Aside0 (w'.heap[gb166]? = some (.cells #[.int .i64 ((rd_T70 l0 x14_1).f0), .int .i64 ((rd_T70 l0 x14_1).f1), .int .i64 ((rd_T70 l0 x14_1).f2), .int .i64 ((rd_T70 l0 x14_1).f3), .int .i64 ((rd_T70 l0 x14_1).f4)] 70 (0, 0))) ∧ Aside0 (Below w.heap.size w w'))
      case atStart => exact ⟨(x7_1), (0), rB, H', ⟨Nat.le_refl _⟩, ⟨by (with_reducible repeat (first | apply Kd.R_alloc | apply Kd.R_drewN | apply Kd.R_drew)); exact Kd.R_mono (Kd.R_far (p := ⟨gb166, 4, none⟩) (Kd.R_far (p := ⟨gb166, 3, none⟩) (Kd.R_far (p := ⟨gb166, 2, none⟩) (Kd.R_far (p := ⟨gb166, 1, none⟩) (Kd.R_far (p := ⟨gb166, 0, none⟩) (Kd.R_types HO_7.out BK166.out (by decide)) (fun _ hk => hk.2) (.int .i64 ((rd_T70 l0 x14_1).f0))) (fun _ hk => hk.2) (.int .i64 ((rd_T70 l0 x14_1).f1))) (fun _ hk => hk.2) (.int .i64 ((rd_T70 l0 x14_1).f2))) (fun _ hk => hk.2) (.int .i64 ((rd_T70 l0 x14_1).f3))) (fun _ hk => hk.2) (.int .i64 ((rd_T70 l0 x14_1).f4))) (fun _ hk => trivial)⟩, ⟨by exact pW BK166⟩, (aB HB)⟩
      case round =>
       clear H'
       try clear c1
       try clear c4b0
       try clear c5
       try clear c5b0
       try clear c6
       try clear c6b0
       try clear hcz8_0
       try clear hcz8_1
       try clear hcz8_2
       try clear hcz8_3
       try clear hcz8_4
       try clear hfz8_0
       try clear hx165_0
       try clear hx165_1
       try clear hx165_2
       try clear hx165_3
       try clear hx165_4
       try clear p165
       try clear q165
       obtain ⟨x7_2, x21_2, rfl, HA, HK2, HO_7, BK166, HB⟩ := hrel
       cases gk with
       | zero => exact absurd HA.out (by simp [impl_sharedLegs.l1])
       | succ k2 =>
        have H := HA.out
        clear HA
        simp only [impl_sharedLegs.l1] at H
        replace H := ifD H
        rcases H with ⟨H, -, c9b0⟩ | ⟨H, -, c9b0⟩
        ·by_cases c10 : 0 ≤ x21_2
         ·rw [if_pos c10] at H
          have c10b0 : decide (0 ≤ x21_2) = true := decide_eq_true c10
          clear c10
          by_cases c11 : x21_2 < (l1.length : Int)
          ·rw [if_pos c11] at H
           have c11b0 : decide (x21_2 < (l1.length : Int)) = true := decide_eq_true c11
           clear c11
           replace H := bA H
           obtain ⟨t169, A12, H⟩ := H
           rcases Bool.eq_false_or_eq_true t169 with rfl | rfl
           ·replace H := iT rfl H
            replace H := bA H
            obtain ⟨t170, A14, H⟩ := H
            rcases Bool.eq_false_or_eq_true t170 with rfl | rfl
            ·replace H := iT rfl H
             by_cases c16 : x7_2.length < 8796093022208
             ·rw [if_pos c16] at H
              have LMc16 := Aside0.mk c16
              clear c16
              obtain ⟨y171, hy171⟩ : ∃ y_ : List (S64), y_ = (x7_2 ++ [(⟨x14_1, x21_2⟩ : S64)]) := ⟨_, rfl⟩
              replace H : (impl_sharedLegs.l1 k2 l1 y171 x14_1 l0 (l0.length : Int) x14_1 l1 (l1.length : Int) (wrap64 (x21_2 + 1)) ((rd_T70 l0 x14_1).f0) ((rd_T70 l0 x14_1).f1) ((rd_T70 l0 x14_1).f2) ((rd_T70 l0 x14_1).f3) ((rd_T70 l0 x14_1).f4)) = some r := by first | (rw [hy171]; with_reducible exact H) | (have H2_ := (Option.bind_some _ _).symm.trans H; rw [hy171]; with_reducible exact H2_) | (have H2_ := (Option.bind_some _ _).symm.trans H; with_reducible exact H2_) | with_reducible exact H | (rw [hy171]; exact H) | exact H
              have Ny171 := Aside0.mk hy171
              clear hy171
              have H' := Aside0.mk H
              clear H
              have p167 : 0 ≤ (x21_2 : Int) := of_decide_eq_true asmB
              have q167 : x21_2 < (l1.length : Int) := of_decide_eq_true asmB
              obtain ⟨ad167, e167, hx167_0, hx167_1, hx167_2, hx167_3, hx167_4⟩ := at_T70 HR1.out x21_2 p167 q167
              cases e167
              replace hx167_0 := bx HB.out hx167_0
              replace hx167_1 := bx HB.out hx167_1
              replace hx167_2 := bx HB.out hx167_2
              replace hx167_3 := bx HB.out hx167_3
              replace hx167_4 := bx HB.out hx167_4
              replace p167 := eq_true p167
              replace q167 := eq_true q167
              go_wp2_with (first | ((with_reducible refine gD 11 ?_); refine bxE 11 70 #[.int .i64 0, .int .i64 0, .int .i64 0, .int .i64 0, .int .i64 0] fun gb168 w17 hg hbox hb => ?_; have BK168 := Aside0.mk hbox; have GE168 := gB HB hg; have ⟨NB166_168, NB168_166⟩ := nB BK166 hg; replace HO_7 := uR HO_7 hb; replace BK166 := uK BK166 hb; replace HB := uB HB hb; clear hb hbox hg; have hnb18 := NB168_166.out; have hnc18 := NB166_168.out; have ⟨hcz19_0, hcz19_1, hcz19_2, hcz19_3, hcz19_4, hfz19_0⟩ := cz5 BK168; have ⟨hcz20_0, hcz20_1, hcz20_2, hcz20_3, hcz20_4, hfz20_0⟩ := cz5 BK166) | ((with_reducible refine gC 70 ?_); refine lA (some 28) Try.func70 (impl_joins.calls ((rd_T70 l0 x14_1).f0) ((rd_T70 l0 x14_1).f1) ((rd_T70 l0 x14_1).f2) ((rd_T70 l0 x14_1).f3) ((rd_T70 l0 x14_1).f4) ((rd_T70 l1 x21_2).f0) ((rd_T70 l1 x21_2).f1) ((rd_T70 l1 x21_2).f2) ((rd_T70 l1 x21_2).f3) ((rd_T70 l1 x21_2).f4) true _ A12.out) ?_; intro w21 hb; replace HO_7 := Aside0.mk (Kd.R_below (by (with_reducible repeat (first | apply Kd.R_alloc | apply Kd.R_drewN | apply Kd.R_drew)); exact (Kd.R_mono (Kd.R_far (p := ⟨gb168, 4, none⟩) (Kd.R_far (p := ⟨gb168, 3, none⟩) (Kd.R_far (p := ⟨gb168, 2, none⟩) (Kd.R_far (p := ⟨gb168, 1, none⟩) (Kd.R_far (p := ⟨gb168, 0, none⟩) (Kd.R_types HO_7.out BK168.out (by decide)) (fun _ hk => hk.2) (.int .i64 ((rd_T70 l1 x21_2).f0))) (fun _ hk => hk.2) (.int .i64 ((rd_T70 l1 x21_2).f1))) (fun _ hk => hk.2) (.int .i64 ((rd_T70 l1 x21_2).f2))) (fun _ hk => hk.2) (.int .i64 ((rd_T70 l1 x21_2).f3))) (fun _ hk => hk.2) (.int .i64 ((rd_T70 l1 x21_2).f4))) (fun _ h_ => h_.1))) hb); replace BK166 := uQ BK166 hb #[.int .i64 ((rd_T70 l0 x14_1).f0), .int .i64 ((rd_T70 l0 x14_1).f1), .int .i64 ((rd_T70 l0 x14_1).f2), .int .i64 ((rd_T70 l0 x14_1).f3), .int .i64 ((rd_T70 l0 x14_1).f4)]; replace BK168 := uQ BK168 hb #[.int .i64 ((rd_T70 l1 x21_2).f0), .int .i64 ((rd_T70 l1 x21_2).f1), .int .i64 ((rd_T70 l1 x21_2).f2), .int .i64 ((rd_T70 l1 x21_2).f3), .int .i64 ((rd_T70 l1 x21_2).f4)]; replace HB := uB HB hb; (try clear hb); (try clear hk); have ⟨hcz22_0, hcz22_1, hcz22_2, hcz22_3, hcz22_4, hfz22_0⟩ := cz5 BK166; have ⟨hcz23_0, hcz23_1, hcz23_2, hcz23_3, hcz23_4, hfz23_0⟩ := cz5 BK168) | (go_at_call 64; (with_reducible refine (impl_SharedLegs_1.calls ((rd_T70 l0 x14_1).f0) ((rd_T70 l0 x14_1).f1) ((rd_T70 l0 x14_1).f2) ((rd_T70 l0 x14_1).f3) ((rd_T70 l0 x14_1).f4) ((rd_T70 l1 x21_2).f0) ((rd_T70 l1 x21_2).f1) ((rd_T70 l1 x21_2).f2) ((rd_T70 l1 x21_2).f3) ((rd_T70 l1 x21_2).f4) true _ A14.out).mono ?_); rintro e w24 ⟨rfl, hb⟩; replace HO_7 := uR HO_7 hb; replace BK166 := uK BK166 hb; replace BK168 := uK BK168 hb; replace HB := uB HB hb; (try clear hb); (try clear hk)) | ((with_reducible refine gate_builtin (b := .append) (xs := #[.tmp 35, .tmp 39]) rfl ?_); at_builtin; refine Kd.R_append k64 (w0 := w) w.heap.size rfl (.tmp 35) (.tmp 39) 32 64 (.agg #[(.int .i64 0), (.int .i64 0)]) 16 rfl Try.underlying32 info64 rfl (by decide) (by omega) u7 x7_2 (⟨x14_1, x21_2⟩ : S64) [.int .i64 x14_1, .int .i64 x21_2] (fun _ => True) (fun _ => False) rfl rfl ?aP (fun _ hk => hk.elim) ?aF ?aO ?aB ?aS ?aL ?_; (case aP => exact k64_mkM _ _ _ (⟨x14_1, x21_2⟩ : S64)); (case aB => exact (bW HB)); (case aF => exact (fun _ _ => trivial)); (case aO => exact (upR HO_7.out)); (case aS => exact (below_size (bW HB))); (case aL => have := LMc16.out; omega); intro v172 w25 ho hb hg hat; rw [← Ny171.out] at ho; have HO173 := Aside0.mk (ho); replace BK166 := Aside0.mk (blk_grown (g := gb166) (o := .cells #[.int .i64 ((rd_T70 l0 x14_1).f0), .int .i64 ((rd_T70 l0 x14_1).f1), .int .i64 ((rd_T70 l0 x14_1).f2), .int .i64 ((rd_T70 l0 x14_1).f3), .int .i64 ((rd_T70 l0 x14_1).f4)] 70 (0, 0)) (upK BK166.out) hg (Kd.R_ne HO_7.out BK166.out (by decide))); replace BK168 := Aside0.mk (blk_grown (g := gb168) (o := .cells #[.int .i64 ((rd_T70 l1 x21_2).f0), .int .i64 ((rd_T70 l1 x21_2).f1), .int .i64 ((rd_T70 l1 x21_2).f2), .int .i64 ((rd_T70 l1 x21_2).f3), .int .i64 ((rd_T70 l1 x21_2).f4)] 70 (0, 0)) (upK BK168.out) hg (Kd.R_ne HO_7.out BK168.out (by decide))); replace HB := Aside0.mk (hb); clear HO_7; clear ho hb hg hat))
              go_roundg k2
              case measure => have := HK1.out; have := HK2.out; omega
              case rel => exact ⟨(y171), (wrap64 (x21_2 + 1)), rB, H', ⟨by have := HK1.out; have := HK2.out; omega⟩, ⟨upR HO173.out⟩, (aK BK166), (aB HB)⟩
             ·rw [if_neg c16] at H
              exact absurd H (by simp)
            ·replace H := iF (by decide) H
             have H' := Aside0.mk H
             clear H
             have p167 : 0 ≤ (x21_2 : Int) := of_decide_eq_true asmB
             have q167 : x21_2 < (l1.length : Int) := of_decide_eq_true asmB
             obtain ⟨ad167, e167, hx167_0, hx167_1, hx167_2, hx167_3, hx167_4⟩ := at_T70 HR1.out x21_2 p167 q167
             cases e167
             replace hx167_0 := bx HB.out hx167_0
             replace hx167_1 := bx HB.out hx167_1
             replace hx167_2 := bx HB.out hx167_2
             replace hx167_3 := bx HB.out hx167_3
             replace hx167_4 := bx HB.out hx167_4
             replace p167 := eq_true p167
             replace q167 := eq_true q167
             go_wp2_with (first | ((with_reducible refine gD 11 ?_); refine bxE 11 70 #[.int .i64 0, .int .i64 0, .int .i64 0, .int .i64 0, .int .i64 0] fun gb168 w26 hg hbox hb => ?_; have BK168 := Aside0.mk hbox; have GE168 := gB HB hg; have ⟨NB166_168, NB168_166⟩ := nB BK166 hg; replace HO_7 := uR HO_7 hb; replace BK166 := uK BK166 hb; replace HB := uB HB hb; clear hb hbox hg; have hnb27 := NB168_166.out; have hnc27 := NB166_168.out; have ⟨hcz28_0, hcz28_1, hcz28_2, hcz28_3, hcz28_4, hfz28_0⟩ := cz5 BK168; have ⟨hcz29_0, hcz29_1, hcz29_2, hcz29_3, hcz29_4, hfz29_0⟩ := cz5 BK166) | ((with_reducible refine gC 70 ?_); refine lA (some 28) Try.func70 (impl_joins.calls ((rd_T70 l0 x14_1).f0) ((rd_T70 l0 x14_1).f1) ((rd_T70 l0 x14_1).f2) ((rd_T70 l0 x14_1).f3) ((rd_T70 l0 x14_1).f4) ((rd_T70 l1 x21_2).f0) ((rd_T70 l1 x21_2).f1) ((rd_T70 l1 x21_2).f2) ((rd_T70 l1 x21_2).f3) ((rd_T70 l1 x21_2).f4) true _ A12.out) ?_; intro w30 hb; replace HO_7 := Aside0.mk (Kd.R_below (by (with_reducible repeat (first | apply Kd.R_alloc | apply Kd.R_drewN | apply Kd.R_drew)); exact (Kd.R_mono (Kd.R_far (p := ⟨gb168, 4, none⟩) (Kd.R_far (p := ⟨gb168, 3, none⟩) (Kd.R_far (p := ⟨gb168, 2, none⟩) (Kd.R_far (p := ⟨gb168, 1, none⟩) (Kd.R_far (p := ⟨gb168, 0, none⟩) (Kd.R_types HO_7.out BK168.out (by decide)) (fun _ hk => hk.2) (.int .i64 ((rd_T70 l1 x21_2).f0))) (fun _ hk => hk.2) (.int .i64 ((rd_T70 l1 x21_2).f1))) (fun _ hk => hk.2) (.int .i64 ((rd_T70 l1 x21_2).f2))) (fun _ hk => hk.2) (.int .i64 ((rd_T70 l1 x21_2).f3))) (fun _ hk => hk.2) (.int .i64 ((rd_T70 l1 x21_2).f4))) (fun _ h_ => h_.1))) hb); replace BK166 := uQ BK166 hb #[.int .i64 ((rd_T70 l0 x14_1).f0), .int .i64 ((rd_T70 l0 x14_1).f1), .int .i64 ((rd_T70 l0 x14_1).f2), .int .i64 ((rd_T70 l0 x14_1).f3), .int .i64 ((rd_T70 l0 x14_1).f4)]; replace BK168 := uQ BK168 hb #[.int .i64 ((rd_T70 l1 x21_2).f0), .int .i64 ((rd_T70 l1 x21_2).f1), .int .i64 ((rd_T70 l1 x21_2).f2), .int .i64 ((rd_T70 l1 x21_2).f3), .int .i64 ((rd_T70 l1 x21_2).f4)]; replace HB := uB HB hb; (try clear hb); (try clear hk); have ⟨hcz31_0, hcz31_1, hcz31_2, hcz31_3, hcz31_4, hfz31_0⟩ := cz5 BK166; have ⟨hcz32_0, hcz32_1, hcz32_2, hcz32_3, hcz32_4, hfz32_0⟩ := cz5 BK168) | (go_at_call 64; (with_reducible refine (impl_SharedLegs_1.calls ((rd_T70 l0 x14_1).f0) ((rd_T70 l0 x14_1).f1) ((rd_T70 l0 x14_1).f2) ((rd_T70 l0 x14_1).f3) ((rd_T70 l0 x14_1).f4) ((rd_T70 l1 x21_2).f0) ((rd_T70 l1 x21_2).f1) ((rd_T70 l1 x21_2).f2) ((rd_T70 l1 x21_2).f3) ((rd_T70 l1 x21_2).f4) false _ A14.out).mono ?_); rintro e w33 ⟨rfl, hb⟩; replace HO_7 := uR HO_7 hb; replace BK166 := uK BK166 hb; replace BK168 := uK BK168 hb; replace HB := uB HB hb; (try clear hb); (try clear hk)))
             go_roundg k2
             case measure => have := HK1.out; have := HK2.out; omega
             case rel => exact ⟨(x7_2), (wrap64 (x21_2 + 1)), rB, H', ⟨by have := HK1.out; have := HK2.out; omega⟩, ⟨upR HO_7.out⟩, (aK BK166), (aB HB)⟩
           ·replace H := iF (by decide) H
            have H' := Aside0.mk H
            clear H
            have p167 : 0 ≤ (x21_2 : Int) := of_decide_eq_true asmB
            have q167 : x21_2 < (l1.length : Int) := of_decide_eq_true asmB
            obtain ⟨ad167, e167, hx167_0, hx167_1, hx167_2, hx167_3, hx167_4⟩ := at_T70 HR1.out x21_2 p167 q167
            cases e167
            replace hx167_0 := bx HB.out hx167_0
            replace hx167_1 := bx HB.out hx167_1
            replace hx167_2 := bx HB.out hx167_2
            replace hx167_3 := bx HB.out hx167_3
            replace hx167_4 := bx HB.out hx167_4
            replace p167 := eq_true p167
            replace q167 := eq_true q167
            go_wp2_with (first | ((with_reducible refine gD 11 ?_); refine bxE 11 70 #[.int .i64 0, .int .i64 0, .int .i64 0, .int .i64 0, .int .i64 0] fun gb168 w34 hg hbox hb => ?_; have BK168 := Aside0.mk hbox; have GE168 := gB HB hg; have ⟨NB166_168, NB168_166⟩ := nB BK166 hg; replace HO_7 := uR HO_7 hb; replace BK166 := uK BK166 hb; replace HB := uB HB hb; clear hb hbox hg; have hnb35 := NB168_166.out; have hnc35 := NB166_168.out; have ⟨hcz36_0, hcz36_1, hcz36_2, hcz36_3, hcz36_4, hfz36_0⟩ := cz5 BK168; have ⟨hcz37_0, hcz37_1, hcz37_2, hcz37_3, hcz37_4, hfz37_0⟩ := cz5 BK166) | ((with_reducible refine gC 70 ?_); refine lA (some 28) Try.func70 (impl_joins.calls ((rd_T70 l0 x14_1).f0) ((rd_T70 l0 x14_1).f1) ((rd_T70 l0 x14_1).f2) ((rd_T70 l0 x14_1).f3) ((rd_T70 l0 x14_1).f4) ((rd_T70 l1 x21_2).f0) ((rd_T70 l1 x21_2).f1) ((rd_T70 l1 x21_2).f2) ((rd_T70 l1 x21_2).f3) ((rd_T70 l1 x21_2).f4) false _ A12.out) ?_; intro w38 hb; replace HO_7 := Aside0.mk (Kd.R_below (by (with_reducible repeat (first | apply Kd.R_alloc | apply Kd.R_drewN | apply Kd.R_drew)); exact (Kd.R_mono (Kd.R_far (p := ⟨gb168, 4, none⟩) (Kd.R_far (p := ⟨gb168, 3, none⟩) (Kd.R_far (p := ⟨gb168, 2, none⟩) (Kd.R_far (p := ⟨gb168, 1, none⟩) (Kd.R_far (p := ⟨gb168, 0, none⟩) (Kd.R_types HO_7.out BK168.out (by decide)) (fun _ hk => hk.2) (.int .i64 ((rd_T70 l1 x21_2).f0))) (fun _ hk => hk.2) (.int .i64 ((rd_T70 l1 x21_2).f1))) (fun _ hk => hk.2) (.int .i64 ((rd_T70 l1 x21_2).f2))) (fun _ hk => hk.2) (.int .i64 ((rd_T70 l1 x21_2).f3))) (fun _ hk => hk.2) (.int .i64 ((rd_T70 l1 x21_2).f4))) (fun _ h_ => h_.1))) hb); replace BK166 := uQ BK166 hb #[.int .i64 ((rd_T70 l0 x14_1).f0), .int .i64 ((rd_T70 l0 x14_1).f1), .int .i64 ((rd_T70 l0 x14_1).f2), .int .i64 ((rd_T70 l0 x14_1).f3), .int .i64 ((rd_T70 l0 x14_1).f4)]; replace BK168 := uQ BK168 hb #[.int .i64 ((rd_T70 l1 x21_2).f0), .int .i64 ((rd_T70 l1 x21_2).f1), .int .i64 ((rd_T70 l1 x21_2).f2), .int .i64 ((rd_T70 l1 x21_2).f3), .int .i64 ((rd_T70 l1 x21_2).f4)]; replace HB := uB HB hb; (try clear hb); (try clear hk)))
            go_roundg k2
            case measure => have := HK1.out; have := HK2.out; omega
            case rel => exact ⟨(x7_2), (wrap64 (x21_2 + 1)), rB, H', ⟨by have := HK1.out; have := HK2.out; omega⟩, ⟨upR HO_7.out⟩, (aK BK166), (aB HB)⟩
          ·rw [if_neg c11] at H
           exact absurd H (by simp)
         ·rw [if_neg c10] at H
          exact absurd H (by simp)
        ·have H' := Aside0.mk H
         clear H
         go_wp2
         go_roundg k2
         case measure => have := HK1.out; have := HK2.out; omega
         case rel => exact ⟨(x7_2), (wrap64 (x14_1 + 1)), rB, H', ⟨by have := HK1.out; have := HK2.out; omega⟩, ⟨upR HO_7.out⟩, (aB HB)⟩
     ·rw [if_neg c6] at H
      exact absurd H (by simp)
    ·rw [if_neg c5] at H
     exact absurd H (by simp)
   ·obtain rfl := Option.some.inj H
    go_wp2
    go_ret
    exact ⟨_, eB, upR HO_7.out, (bW HB)⟩

/-! ### impl_xSharedC: function 139 -/
mutual
def impl_xSharedC.l0 : Nat → List (S70) → Int → Int → List (S64) → List (S70) → Int → Int → Option ((List (S64)))
 | 0, _, _, _, _, _, _, _ => none
 | k + 1, x1, x2, x3, x7, x12, x13, x14 => if x14 < x13 then (if 0 ≤ x14 then (if x14 < (x12.length : Int) then (impl_xSharedC.l1 k x1 x2 x3 x7 x14 x12 x13 x14 x1 (x1.length : Int) 0 ((rd_T70 x12 x14).f0) ((rd_T70 x12 x14).f1) ((rd_T70 x12 x14).f2) ((rd_T70 x12 x14).f3) ((rd_T70 x12 x14).f4)) else (none)) else (none)) else (some x7)
def impl_xSharedC.l1 : Nat → List (S70) → Int → Int → List (S64) → Int → List (S70) → Int → Int → List (S70) → Int → Int → Int → Int → Int → Int → Int → Option ((List (S64)))
 | 0, _, _, _, _, _, _, _, _, _, _, _, _, _, _, _, _ => none
 | k + 1, x1, x2, x3, x7, x8, x12, x13, x14, x19, x20, x21, x176000, x176001, x176002, x176003, x176004 => if x21 < x20 then (if 0 ≤ x21 then (if x21 < (x19.length : Int) then ((impl_joins.f x176000 x176001 x176002 x176003 x176004 ((rd_T70 x19 x21).f0) ((rd_T70 x19 x21).f1) ((rd_T70 x19 x21).f2) ((rd_T70 x19 x21).f3) ((rd_T70 x19 x21).f4)).bind fun t178 => (if t178 = true then ((impl_xDisagree.f x176000 x176001 x176002 x176003 x176004 ((rd_T70 x19 x21).f0) ((rd_T70 x19 x21).f1) ((rd_T70 x19 x21).f2) ((rd_T70 x19 x21).f3) ((rd_T70 x19 x21).f4) x2 x3).bind fun t179 => (if t179 = true then (if x7.length < 8796093022208 then (impl_xSharedC.l1 k x1 x2 x3 (x7 ++ [(⟨x8, x21⟩ : S64)]) x8 x12 x13 x14 x19 x20 (wrap64 (x21 + 1)) x176000 x176001 x176002 x176003 x176004) else (none)) else (impl_xSharedC.l1 k x1 x2 x3 x7 x8 x12 x13 x14 x19 x20 (wrap64 (x21 + 1)) x176000 x176001 x176002 x176003 x176004))) else (impl_xSharedC.l1 k x1 x2 x3 x7 x8 x12 x13 x14 x19 x20 (wrap64 (x21 + 1)) x176000 x176001 x176002 x176003 x176004))) else (none)) else (none)) else (impl_xSharedC.l0 k x1 x2 x3 x7 x12 x13 (wrap64 (x14 + 1)))
end
def impl_xSharedC.f (k : Nat) (l0 : List (S70)) (l1 : List (S70)) (a2 a3 : Int) : Option ((List (S64))) := impl_xSharedC.l0 k l1 a2 a3 ([] : List (S64)) l0 (l0.length : Int) 0
theorem impl_xSharedC.mono_l : ∀ k, (∀ y0 y1 y2 y3 y4 y5 y6, LeO (impl_xSharedC.l0 k y0 y1 y2 y3 y4 y5 y6) (impl_xSharedC.l0 (k + 1) y0 y1 y2 y3 y4 y5 y6)) ∧ (∀ y0 y1 y2 y3 y4 y5 y6 y7 y8 y9 y10 y11 y12 y13 y14 y15, LeO (impl_xSharedC.l1 k y0 y1 y2 y3 y4 y5 y6 y7 y8 y9 y10 y11 y12 y13 y14 y15) (impl_xSharedC.l1 (k + 1) y0 y1 y2 y3 y4 y5 y6 y7 y8 y9 y10 y11 y12 y13 y14 y15))
 | 0 => ⟨fun _ _ _ _ _ _ _ r h => by simp [impl_xSharedC.l0] at h, fun _ _ _ _ _ _ _ _ _ _ _ _ _ _ _ _ r h => by simp [impl_xSharedC.l1] at h⟩
 | k + 1 => by
  obtain ⟨ih0, ih1⟩ := impl_xSharedC.mono_l k
  refine ⟨?_, ?_⟩
  ·intro y0 y1 y2 y3 y4 y5 y6
   unfold impl_xSharedC.l0
   repeat' with_reducible first | apply ih0 | apply ih1 | exact LeO.refl _ | exact LeO.none _ | refine LeO.ite ?_ ?_ | refine LeO.bind ?_ (fun _ => ?_)
  ·intro y0 y1 y2 y3 y4 y5 y6 y7 y8 y9 y10 y11 y12 y13 y14 y15
   unfold impl_xSharedC.l1
   repeat' with_reducible first | apply ih0 | apply ih1 | exact LeO.refl _ | exact LeO.none _ | refine LeO.ite ?_ ?_ | refine LeO.bind ?_ (fun _ => ?_)
theorem impl_xSharedC.mono : ∀ a0 a1 a2 a3 k, LeO (impl_xSharedC.f k a0 a1 a2 a3) (impl_xSharedC.f (k + 1) a0 a1 a2 a3) := by
 intro a0 a1 a2 a3 k
 obtain ⟨ih0, ih1⟩ := impl_xSharedC.mono_l k
 unfold impl_xSharedC.f
 repeat' with_reducible first | apply ih0 | apply ih1 | exact LeO.refl _ | exact LeO.none _ | refine LeO.ite ?_ ?_ | refine LeO.bind ?_ (fun _ => ?_)
set_option maxHeartbeats 8000000 in
set_option maxRecDepth 100000 in
theorem impl_xSharedC.calls (k : Nat) (A0 : Option Addr) (c0 : Nat) (l0 : List (S70)) (A1 : Option Addr) (c1 : Nat) (l1 : List (S70)) (a2 a3 : Int) (r : List (S64)) (w : World) (hr0 : Kd.C k70 w A0 l0.length l0) (hc0 : l0.length ≤ c0) (hr1 : Kd.C k70 w A1 l1.length l1) (hc1 : l1.length ≤ c1) (h : impl_xSharedC.f k l0 l1 a2 a3 = some r) {b1_ b2_ : Nat} (hcl1 : w.heap[b1_]? = some (.cells #[.int .i64 a2] 3 (0, 0))) (hcl2 : w.heap[b2_]? = some (.cells #[.int .i64 a3] 3 (0, 0))) :
  Calls Try.prog 63 #[.slice A0 l0.length c0, .slice A1 l1.length c1, .func (.func 74) #[] #[.pointer (some ⟨b1_, 0, none⟩), .pointer (some ⟨b2_, 0, none⟩)]] w fun e w' => ∃ v0_ : Value, e = .returned (v0_) ∧ Kd.R k64 64 w' w.heap.size (fun _ => True) v0_ r ∧ Below w.heap.size w w' := by
 have hu70 := Try.underlying70
 have hu64 := Try.underlying64
 have HR0 := Aside0.mk hr0
 have HC0 := Aside0.mk hc0
 clear hr0 hc0
 have HR1 := Aside0.mk hr1
 have HC1 := Aside0.mk hc1
 clear hr1 hc1
 have HB := Aside0.mk (Below.refl w.heap.size w)
 have H := h
 clear h
 unfold impl_xSharedC.f at H
 have H' := Aside0.mk H
 clear H
 go_enter Try.func63, Try.ntmps63
 go_wp2
 go_loopg [7, 14] k (fun kq v7 v14 w' => ∃ (x7_1 : List (S64)) (x14_1 : Int), v14 = .int .i64 x14_1 ∧ Aside0 (impl_xSharedC.l0 kq l1 a2 a3 x7_1 l0 (l0.length : Int) x14_1 = some r) ∧ Aside0 (kq ≤ k) ∧ Aside0 (Kd.R k64 64 w' w.heap.size (fun _ => True) v7 x7_1) ∧ Aside0 (Below w.heap.size w w'))
 case atStart => exact ⟨(([] : List (S64))), (0), rB, H', ⟨Nat.le_refl _⟩, ⟨by first | exact Kd.R_nil _ _ _ _ _ | exact Kd.N_nil _ _ _ _ _ | exact Kd.V_nil _ _ _ _ _ | exact Kd.Q_nil _ _ _ _ _ | exact Kd.S_nil _ _ _ _ _⟩, (aB HB)⟩
 case round =>
  clear H'
  try clear c1
  obtain ⟨x7_1, x14_1, rfl, HA, HK1, HO_7, HB⟩ := hrel
  cases gk with
  | zero => exact absurd HA.out (by simp [impl_xSharedC.l0])
  | succ k1 =>
   have H := HA.out
   clear HA
   simp only [impl_xSharedC.l0] at H
   replace H := ifD H
   rcases H with ⟨H, -, c5b0⟩ | ⟨H, -, c5b0⟩
   ·by_cases c6 : 0 ≤ x14_1
    ·rw [if_pos c6] at H
     have c6b0 : decide (0 ≤ x14_1) = true := decide_eq_true c6
     clear c6
     by_cases c7 : x14_1 < (l0.length : Int)
     ·rw [if_pos c7] at H
      have c7b0 : decide (x14_1 < (l0.length : Int)) = true := decide_eq_true c7
      clear c7
      have H' := Aside0.mk H
      clear H
      have p174 : 0 ≤ (x14_1 : Int) := of_decide_eq_true asmB
      have q174 : x14_1 < (l0.length : Int) := of_decide_eq_true asmB
      obtain ⟨ad174, e174, hx174_0, hx174_1, hx174_2, hx174_3, hx174_4⟩ := at_T70 HR0.out x14_1 p174 q174
      cases e174
      replace hx174_0 := bx HB.out hx174_0
      replace hx174_1 := bx HB.out hx174_1
      replace hx174_2 := bx HB.out hx174_2
      replace hx174_3 := bx HB.out hx174_3
      replace hx174_4 := bx HB.out hx174_4
      replace p174 := eq_true p174
      replace q174 := eq_true q174
      go_wp2_with (first | ((with_reducible refine gD 9 ?_); refine bxE 9 70 #[.int .i64 0, .int .i64 0, .int .i64 0, .int .i64 0, .int .i64 0] fun gb175 w8 hg hbox hb => ?_; have BK175 := Aside0.mk hbox; have GE175 := gB HB hg; replace HO_7 := uR HO_7 hb; replace HB := uB HB hb; clear hb hbox hg; have ⟨hcz9_0, hcz9_1, hcz9_2, hcz9_3, hcz9_4, hfz9_0⟩ := cz5 BK175))
      (try simp only [Act.put, List.setIfInBounds_toArray, List.set_cons_zero, List.set_cons_succ])
      go_loopg [7, 21] k1 (fun kq v7 v21 w' => ∃ (x7_2 : List (S64)) (x21_2 : Int), v21 = .int .i64 x21_2 ∧ Aside0 (impl_xSharedC.l1 kq l1 a2 a3 x7_2 x14_1 l0 (l0.length : Int) x14_1 l1 (l1.length : Int) x21_2 ((rd_T70 l0 x14_1).f0) ((rd_T70 l0 x14_1).f1) ((rd_T70 l0 x14_1).f2) ((rd_T70 l0 x14_1).f3) ((rd_T70 l0 x14_1).f4) = some r) ∧ Aside0 (kq ≤ k1) ∧ Aside0 (Kd.R k64 64 w' w.heap.size (fun _ => True) v7 x7_2) ∧ Aside0 (w'.heap[gb175]? = some (.cells #[.int .i64 ((rd_T70 l0 x14_1).f0), .int .i64 ((rd_T70 l0 x14_1).f1), .int .i64 ((rd_T70 l0 x14_1).f2), .int .i64 ((rd_T70 l0 x14_1).f3), .int .i64 ((rd_T70 l0 x14_1).f4)] 70 (0, 0))) ∧ Aside0 (Below w.heap.size w w'))
      case atStart => exact ⟨(x7_1), (0), rB, H', ⟨Nat.le_refl _⟩, ⟨by (with_reducible repeat (first | apply Kd.R_alloc | apply Kd.R_drewN | apply Kd.R_drew)); exact Kd.R_mono (Kd.R_far (p := ⟨gb175, 4, none⟩) (Kd.R_far (p := ⟨gb175, 3, none⟩) (Kd.R_far (p := ⟨gb175, 2, none⟩) (Kd.R_far (p := ⟨gb175, 1, none⟩) (Kd.R_far (p := ⟨gb175, 0, none⟩) (Kd.R_types HO_7.out BK175.out (by decide)) (fun _ hk => hk.2) (.int .i64 ((rd_T70 l0 x14_1).f0))) (fun _ hk => hk.2) (.int .i64 ((rd_T70 l0 x14_1).f1))) (fun _ hk => hk.2) (.int .i64 ((rd_T70 l0 x14_1).f2))) (fun _ hk => hk.2) (.int .i64 ((rd_T70 l0 x14_1).f3))) (fun _ hk => hk.2) (.int .i64 ((rd_T70 l0 x14_1).f4))) (fun _ hk => trivial)⟩, ⟨by exact pW BK175⟩, (aB HB)⟩
      case round =>
       clear H'
       try clear c1
       try clear c5b0
       try clear c6
       try clear c6b0
       try clear c7
       try clear c7b0
       try clear hcz9_0
       try clear hcz9_1
       try clear hcz9_2
       try clear hcz9_3
       try clear hcz9_4
       try clear hfz9_0
       try clear hx174_0
       try clear hx174_1
       try clear hx174_2
       try clear hx174_3
       try clear hx174_4
       try clear p174
       try clear q174
       obtain ⟨x7_2, x21_2, rfl, HA, HK2, HO_7, BK175, HB⟩ := hrel
       cases gk with
       | zero => exact absurd HA.out (by simp [impl_xSharedC.l1])
       | succ k2 =>
        have H := HA.out
        clear HA
        simp only [impl_xSharedC.l1] at H
        replace H := ifD H
        rcases H with ⟨H, -, c10b0⟩ | ⟨H, -, c10b0⟩
        ·by_cases c11 : 0 ≤ x21_2
         ·rw [if_pos c11] at H
          have c11b0 : decide (0 ≤ x21_2) = true := decide_eq_true c11
          clear c11
          by_cases c12 : x21_2 < (l1.length : Int)
          ·rw [if_pos c12] at H
           have c12b0 : decide (x21_2 < (l1.length : Int)) = true := decide_eq_true c12
           clear c12
           replace H := bA H
           obtain ⟨t178, A13, H⟩ := H
           rcases Bool.eq_false_or_eq_true t178 with rfl | rfl
           ·replace H := iT rfl H
            replace H := bA H
            obtain ⟨t179, A15, H⟩ := H
            rcases Bool.eq_false_or_eq_true t179 with rfl | rfl
            ·replace H := iT rfl H
             by_cases c17 : x7_2.length < 8796093022208
             ·rw [if_pos c17] at H
              have LMc17 := Aside0.mk c17
              clear c17
              obtain ⟨y180, hy180⟩ : ∃ y_ : List (S64), y_ = (x7_2 ++ [(⟨x14_1, x21_2⟩ : S64)]) := ⟨_, rfl⟩
              replace H : (impl_xSharedC.l1 k2 l1 a2 a3 y180 x14_1 l0 (l0.length : Int) x14_1 l1 (l1.length : Int) (wrap64 (x21_2 + 1)) ((rd_T70 l0 x14_1).f0) ((rd_T70 l0 x14_1).f1) ((rd_T70 l0 x14_1).f2) ((rd_T70 l0 x14_1).f3) ((rd_T70 l0 x14_1).f4)) = some r := by first | (rw [hy180]; with_reducible exact H) | (have H2_ := (Option.bind_some _ _).symm.trans H; rw [hy180]; with_reducible exact H2_) | (have H2_ := (Option.bind_some _ _).symm.trans H; with_reducible exact H2_) | with_reducible exact H | (rw [hy180]; exact H) | exact H
              have Ny180 := Aside0.mk hy180
              clear hy180
              have H' := Aside0.mk H
              clear H
              have p176 : 0 ≤ (x21_2 : Int) := of_decide_eq_true asmB
              have q176 : x21_2 < (l1.length : Int) := of_decide_eq_true asmB
              obtain ⟨ad176, e176, hx176_0, hx176_1, hx176_2, hx176_3, hx176_4⟩ := at_T70 HR1.out x21_2 p176 q176
              cases e176
              replace hx176_0 := bx HB.out hx176_0
              replace hx176_1 := bx HB.out hx176_1
              replace hx176_2 := bx HB.out hx176_2
              replace hx176_3 := bx HB.out hx176_3
              replace hx176_4 := bx HB.out hx176_4
              replace p176 := eq_true p176
              replace q176 := eq_true q176
              go_wp2_with (first | ((with_reducible refine gD 11 ?_); refine bxE 11 70 #[.int .i64 0, .int .i64 0, .int .i64 0, .int .i64 0, .int .i64 0] fun gb177 w18 hg hbox hb => ?_; have BK177 := Aside0.mk hbox; have GE177 := gB HB hg; have ⟨NB175_177, NB177_175⟩ := nB BK175 hg; replace HO_7 := uR HO_7 hb; replace BK175 := uK BK175 hb; replace HB := uB HB hb; clear hb hbox hg; have hnb19 := NB177_175.out; have hnc19 := NB175_177.out; have ⟨hcz20_0, hcz20_1, hcz20_2, hcz20_3, hcz20_4, hfz20_0⟩ := cz5 BK177; have ⟨hcz21_0, hcz21_1, hcz21_2, hcz21_3, hcz21_4, hfz21_0⟩ := cz5 BK175) | ((with_reducible refine gC 70 ?_); refine lA (some 28) Try.func70 (impl_joins.calls ((rd_T70 l0 x14_1).f0) ((rd_T70 l0 x14_1).f1) ((rd_T70 l0 x14_1).f2) ((rd_T70 l0 x14_1).f3) ((rd_T70 l0 x14_1).f4) ((rd_T70 l1 x21_2).f0) ((rd_T70 l1 x21_2).f1) ((rd_T70 l1 x21_2).f2) ((rd_T70 l1 x21_2).f3) ((rd_T70 l1 x21_2).f4) true _ A13.out) ?_; intro w22 hb; replace HO_7 := Aside0.mk (Kd.R_below (by (with_reducible repeat (first | apply Kd.R_alloc | apply Kd.R_drewN | apply Kd.R_drew)); exact (Kd.R_mono (Kd.R_far (p := ⟨gb177, 4, none⟩) (Kd.R_far (p := ⟨gb177, 3, none⟩) (Kd.R_far (p := ⟨gb177, 2, none⟩) (Kd.R_far (p := ⟨gb177, 1, none⟩) (Kd.R_far (p := ⟨gb177, 0, none⟩) (Kd.R_types HO_7.out BK177.out (by decide)) (fun _ hk => hk.2) (.int .i64 ((rd_T70 l1 x21_2).f0))) (fun _ hk => hk.2) (.int .i64 ((rd_T70 l1 x21_2).f1))) (fun _ hk => hk.2) (.int .i64 ((rd_T70 l1 x21_2).f2))) (fun _ hk => hk.2) (.int .i64 ((rd_T70 l1 x21_2).f3))) (fun _ hk => hk.2) (.int .i64 ((rd_T70 l1 x21_2).f4))) (fun _ h_ => h_.1))) hb); replace BK175 := uQ BK175 hb #[.int .i64 ((rd_T70 l0 x14_1).f0), .int .i64 ((rd_T70 l0 x14_1).f1), .int .i64 ((rd_T70 l0 x14_1).f2), .int .i64 ((rd_T70 l0 x14_1).f3), .int .i64 ((rd_T70 l0 x14_1).f4)]; replace BK177 := uQ BK177 hb #[.int .i64 ((rd_T70 l1 x21_2).f0), .int .i64 ((rd_T70 l1 x21_2).f1), .int .i64 ((rd_T70 l1 x21_2).f2), .int .i64 ((rd_T70 l1 x21_2).f3), .int .i64 ((rd_T70 l1 x21_2).f4)]; replace HB := uB HB hb; (try clear hb); (try clear hk); have ⟨hcz23_0, hcz23_1, hcz23_2, hcz23_3, hcz23_4, hfz23_0⟩ := cz5 BK175; have ⟨hcz24_0, hcz24_1, hcz24_2, hcz24_3, hcz24_4, hfz24_0⟩ := cz5 BK177) | (go_at_call 74; (with_reducible refine (impl_xDisagree.calls ((rd_T70 l0 x14_1).f0) ((rd_T70 l0 x14_1).f1) ((rd_T70 l0 x14_1).f2) ((rd_T70 l0 x14_1).f3) ((rd_T70 l0 x14_1).f4) ((rd_T70 l1 x21_2).f0) ((rd_T70 l1 x21_2).f1) ((rd_T70 l1 x21_2).f2) ((rd_T70 l1 x21_2).f3) ((rd_T70 l1 x21_2).f4) a2 a3 true _ A15.out).mono ?_); rintro e w25 ⟨rfl, hb⟩; replace HO_7 := uR HO_7 hb; replace BK175 := uK BK175 hb; replace BK177 := uK BK177 hb; replace HB := uB HB hb; (try clear hb); (try clear hk)) | ((with_reducible refine gate_builtin (b := .append) (xs := #[.tmp 35, .tmp 39]) rfl ?_); at_builtin; refine Kd.R_append k64 (w0 := w) w.heap.size rfl (.tmp 35) (.tmp 39) 32 64 (.agg #[(.int .i64 0), (.int .i64 0)]) 16 rfl Try.underlying32 info64 rfl (by decide) (by omega) u7 x7_2 (⟨x14_1, x21_2⟩ : S64) [.int .i64 x14_1, .int .i64 x21_2] (fun _ => True) (fun _ => False) rfl rfl ?aP (fun _ hk => hk.elim) ?aF ?aO ?aB ?aS ?aL ?_; (case aP => exact k64_mkM _ _ _ (⟨x14_1, x21_2⟩ : S64)); (case aB => exact (bW HB)); (case aF => exact (fun _ _ => trivial)); (case aO => exact (upR HO_7.out)); (case aS => exact (below_size (bW HB))); (case aL => have := LMc17.out; omega); intro v181 w26 ho hb hg hat; rw [← Ny180.out] at ho; have HO182 := Aside0.mk (ho); replace BK175 := Aside0.mk (blk_grown (g := gb175) (o := .cells #[.int .i64 ((rd_T70 l0 x14_1).f0), .int .i64 ((rd_T70 l0 x14_1).f1), .int .i64 ((rd_T70 l0 x14_1).f2), .int .i64 ((rd_T70 l0 x14_1).f3), .int .i64 ((rd_T70 l0 x14_1).f4)] 70 (0, 0)) (upK BK175.out) hg (Kd.R_ne HO_7.out BK175.out (by decide))); replace BK177 := Aside0.mk (blk_grown (g := gb177) (o := .cells #[.int .i64 ((rd_T70 l1 x21_2).f0), .int .i64 ((rd_T70 l1 x21_2).f1), .int .i64 ((rd_T70 l1 x21_2).f2), .int .i64 ((rd_T70 l1 x21_2).f3), .int .i64 ((rd_T70 l1 x21_2).f4)] 70 (0, 0)) (upK BK177.out) hg (Kd.R_ne HO_7.out BK177.out (by decide))); replace HB := Aside0.mk (hb); clear HO_7; clear ho hb hg hat))
              go_roundg k2
              case measure => have := HK1.out; have := HK2.out; omega
              case rel => exact ⟨(y180), (wrap64 (x21_2 + 1)), rB, H', ⟨by have := HK1.out; have := HK2.out; omega⟩, ⟨upR HO182.out⟩, (aK BK175), (aB HB)⟩
             ·rw [if_neg c17] at H
              exact absurd H (by simp)
            ·replace H := iF (by decide) H
             have H' := Aside0.mk H
             clear H
             have p176 : 0 ≤ (x21_2 : Int) := of_decide_eq_true asmB
             have q176 : x21_2 < (l1.length : Int) := of_decide_eq_true asmB
             obtain ⟨ad176, e176, hx176_0, hx176_1, hx176_2, hx176_3, hx176_4⟩ := at_T70 HR1.out x21_2 p176 q176
             cases e176
             replace hx176_0 := bx HB.out hx176_0
             replace hx176_1 := bx HB.out hx176_1
             replace hx176_2 := bx HB.out hx176_2
             replace hx176_3 := bx HB.out hx176_3
             replace hx176_4 := bx HB.out hx176_4
             replace p176 := eq_true p176
             replace q176 := eq_true q176
             go_wp2_with (first | ((with_reducible refine gD 11 ?_); refine bxE 11 70 #[.int .i64 0, .int .i64 0, .int .i64 0, .int .i64 0, .int .i64 0] fun gb177 w27 hg hbox hb => ?_; have BK177 := Aside0.mk hbox; have GE177 := gB HB hg; have ⟨NB175_177, NB177_175⟩ := nB BK175 hg; replace HO_7 := uR HO_7 hb; replace BK175 := uK BK175 hb; replace HB := uB HB hb; clear hb hbox hg; have hnb28 := NB177_175.out; have hnc28 := NB175_177.out; have ⟨hcz29_0, hcz29_1, hcz29_2, hcz29_3, hcz29_4, hfz29_0⟩ := cz5 BK177; have ⟨hcz30_0, hcz30_1, hcz30_2, hcz30_3, hcz30_4, hfz30_0⟩ := cz5 BK175) | ((with_reducible refine gC 70 ?_); refine lA (some 28) Try.func70 (impl_joins.calls ((rd_T70 l0 x14_1).f0) ((rd_T70 l0 x14_1).f1) ((rd_T70 l0 x14_1).f2) ((rd_T70 l0 x14_1).f3) ((rd_T70 l0 x14_1).f4) ((rd_T70 l1 x21_2).f0) ((rd_T70 l1 x21_2).f1) ((rd_T70 l1 x21_2).f2) ((rd_T70 l1 x21_2).f3) ((rd_T70 l1 x21_2).f4) true _ A13.out) ?_; intro w31 hb; replace HO_7 := Aside0.mk (Kd.R_below (by (with_reducible repeat (first | apply Kd.R_alloc | apply Kd.R_drewN | apply Kd.R_drew)); exact (Kd.R_mono (Kd.R_far (p := ⟨gb177, 4, none⟩) (Kd.R_far (p := ⟨gb177, 3, none⟩) (Kd.R_far (p := ⟨gb177, 2, none⟩) (Kd.R_far (p := ⟨gb177, 1, none⟩) (Kd.R_far (p := ⟨gb177, 0, none⟩) (Kd.R_types HO_7.out BK177.out (by decide)) (fun _ hk => hk.2) (.int .i64 ((rd_T70 l1 x21_2).f0))) (fun _ hk => hk.2) (.int .i64 ((rd_T70 l1 x21_2).f1))) (fun _ hk => hk.2) (.int .i64 ((rd_T70 l1 x21_2).f2))) (fun _ hk => hk.2) (.int .i64 ((rd_T70 l1 x21_2).f3))) (fun _ hk => hk.2) (.int .i64 ((rd_T70 l1 x21_2).f4))) (fun _ h_ => h_.1))) hb); replace BK175 := uQ BK175 hb #[.int .i64 ((rd_T70 l0 x14_1).f0), .int .i64 ((rd_T70 l0 x14_1).f1), .int .i64 ((rd_T70 l0 x14_1).f2), .int .i64 ((rd_T70 l0 x14_1).f3), .int .i64 ((rd_T70 l0 x14_1).f4)]; replace BK177 := uQ BK177 hb #[.int .i64 ((rd_T70 l1 x21_2).f0), .int .i64 ((rd_T70 l1 x21_2).f1), .int .i64 ((rd_T70 l1 x21_2).f2), .int .i64 ((rd_T70 l1 x21_2).f3), .int .i64 ((rd_T70 l1 x21_2).f4)]; replace HB := uB HB hb; (try clear hb); (try clear hk); have ⟨hcz32_0, hcz32_1, hcz32_2, hcz32_3, hcz32_4, hfz32_0⟩ := cz5 BK175; have ⟨hcz33_0, hcz33_1, hcz33_2, hcz33_3, hcz33_4, hfz33_0⟩ := cz5 BK177) | (go_at_call 74; (with_reducible refine (impl_xDisagree.calls ((rd_T70 l0 x14_1).f0) ((rd_T70 l0 x14_1).f1) ((rd_T70 l0 x14_1).f2) ((rd_T70 l0 x14_1).f3) ((rd_T70 l0 x14_1).f4) ((rd_T70 l1 x21_2).f0) ((rd_T70 l1 x21_2).f1) ((rd_T70 l1 x21_2).f2) ((rd_T70 l1 x21_2).f3) ((rd_T70 l1 x21_2).f4) a2 a3 false _ A15.out).mono ?_); rintro e w34 ⟨rfl, hb⟩; replace HO_7 := uR HO_7 hb; replace BK175 := uK BK175 hb; replace BK177 := uK BK177 hb; replace HB := uB HB hb; (try clear hb); (try clear hk)))
             go_roundg k2
             case measure => have := HK1.out; have := HK2.out; omega
             case rel => exact ⟨(x7_2), (wrap64 (x21_2 + 1)), rB, H', ⟨by have := HK1.out; have := HK2.out; omega⟩, ⟨upR HO_7.out⟩, (aK BK175), (aB HB)⟩
           ·replace H := iF (by decide) H
            have H' := Aside0.mk H
            clear H
            have p176 : 0 ≤ (x21_2 : Int) := of_decide_eq_true asmB
            have q176 : x21_2 < (l1.length : Int) := of_decide_eq_true asmB
            obtain ⟨ad176, e176, hx176_0, hx176_1, hx176_2, hx176_3, hx176_4⟩ := at_T70 HR1.out x21_2 p176 q176
            cases e176
            replace hx176_0 := bx HB.out hx176_0
            replace hx176_1 := bx HB.out hx176_1
            replace hx176_2 := bx HB.out hx176_2
            replace hx176_3 := bx HB.out hx176_3
            replace hx176_4 := bx HB.out hx176_4
            replace p176 := eq_true p176
            replace q176 := eq_true q176
            go_wp2_with (first | ((with_reducible refine gD 11 ?_); refine bxE 11 70 #[.int .i64 0, .int .i64 0, .int .i64 0, .int .i64 0, .int .i64 0] fun gb177 w35 hg hbox hb => ?_; have BK177 := Aside0.mk hbox; have GE177 := gB HB hg; have ⟨NB175_177, NB177_175⟩ := nB BK175 hg; replace HO_7 := uR HO_7 hb; replace BK175 := uK BK175 hb; replace HB := uB HB hb; clear hb hbox hg; have hnb36 := NB177_175.out; have hnc36 := NB175_177.out; have ⟨hcz37_0, hcz37_1, hcz37_2, hcz37_3, hcz37_4, hfz37_0⟩ := cz5 BK177; have ⟨hcz38_0, hcz38_1, hcz38_2, hcz38_3, hcz38_4, hfz38_0⟩ := cz5 BK175) | ((with_reducible refine gC 70 ?_); refine lA (some 28) Try.func70 (impl_joins.calls ((rd_T70 l0 x14_1).f0) ((rd_T70 l0 x14_1).f1) ((rd_T70 l0 x14_1).f2) ((rd_T70 l0 x14_1).f3) ((rd_T70 l0 x14_1).f4) ((rd_T70 l1 x21_2).f0) ((rd_T70 l1 x21_2).f1) ((rd_T70 l1 x21_2).f2) ((rd_T70 l1 x21_2).f3) ((rd_T70 l1 x21_2).f4) false _ A13.out) ?_; intro w39 hb; replace HO_7 := Aside0.mk (Kd.R_below (by (with_reducible repeat (first | apply Kd.R_alloc | apply Kd.R_drewN | apply Kd.R_drew)); exact (Kd.R_mono (Kd.R_far (p := ⟨gb177, 4, none⟩) (Kd.R_far (p := ⟨gb177, 3, none⟩) (Kd.R_far (p := ⟨gb177, 2, none⟩) (Kd.R_far (p := ⟨gb177, 1, none⟩) (Kd.R_far (p := ⟨gb177, 0, none⟩) (Kd.R_types HO_7.out BK177.out (by decide)) (fun _ hk => hk.2) (.int .i64 ((rd_T70 l1 x21_2).f0))) (fun _ hk => hk.2) (.int .i64 ((rd_T70 l1 x21_2).f1))) (fun _ hk => hk.2) (.int .i64 ((rd_T70 l1 x21_2).f2))) (fun _ hk => hk.2) (.int .i64 ((rd_T70 l1 x21_2).f3))) (fun _ hk => hk.2) (.int .i64 ((rd_T70 l1 x21_2).f4))) (fun _ h_ => h_.1))) hb); replace BK175 := uQ BK175 hb #[.int .i64 ((rd_T70 l0 x14_1).f0), .int .i64 ((rd_T70 l0 x14_1).f1), .int .i64 ((rd_T70 l0 x14_1).f2), .int .i64 ((rd_T70 l0 x14_1).f3), .int .i64 ((rd_T70 l0 x14_1).f4)]; replace BK177 := uQ BK177 hb #[.int .i64 ((rd_T70 l1 x21_2).f0), .int .i64 ((rd_T70 l1 x21_2).f1), .int .i64 ((rd_T70 l1 x21_2).f2), .int .i64 ((rd_T70 l1 x21_2).f3), .int .i64 ((rd_T70 l1 x21_2).f4)]; replace HB := uB HB hb; (try clear hb); (try clear hk)))
            go_roundg k2
            case measure => have := HK1.out; have := HK2.out; omega
            case rel => exact ⟨(x7_2), (wrap64 (x21_2 + 1)), rB, H', ⟨by have := HK1.out; have := HK2.out; omega⟩, ⟨upR HO_7.out⟩, (aK BK175), (aB HB)⟩
          ·rw [if_neg c12] at H
           exact absurd H (by simp)
         ·rw [if_neg c11] at H
          exact absurd H (by simp)
        ·have H' := Aside0.mk H
         clear H
         go_wp2
         go_roundg k2
         case measure => have := HK1.out; have := HK2.out; omega
         case rel => exact ⟨(x7_2), (wrap64 (x14_1 + 1)), rB, H', ⟨by have := HK1.out; have := HK2.out; omega⟩, ⟨upR HO_7.out⟩, (aB HB)⟩
     ·rw [if_neg c7] at H
      exact absurd H (by simp)
    ·rw [if_neg c6] at H
     exact absurd H (by simp)
   ·obtain rfl := Option.some.inj H
    go_wp2
    go_ret
    exact ⟨_, eB, upR HO_7.out, (bW HB)⟩

/-! ### impl_SharedLegs: function 27 -/
def impl_SharedLegs.f (k : Nat) (l0 : List (S70)) (l1 : List (S70)) : Option ((List (S64)) × Bool) := (impl_areLegs.f k l0).bind fun t183 => (if t183 = true then ((impl_areLegs.f k l1).bind fun t184 => (if t184 = true then ((impl_sharedLegs.f k l0 l1 0).bind fun t185 => (some (t185, true))) else (some (([] : List (S64)), false)))) else (some (([] : List (S64)), false)))
theorem impl_SharedLegs.mono : ∀ a0 a1 k, LeO (impl_SharedLegs.f k a0 a1) (impl_SharedLegs.f (k + 1) a0 a1) := by
 intro a0 a1 k
 unfold impl_SharedLegs.f
 repeat' with_reducible first | apply impl_areLegs.mono | apply impl_sharedLegs.mono | exact LeO.refl _ | exact LeO.none _ | refine LeO.ite ?_ ?_ | refine LeO.bind ?_ (fun _ => ?_)
set_option maxHeartbeats 8000000 in
set_option maxRecDepth 100000 in
theorem impl_SharedLegs.calls (k : Nat) (A0 : Option Addr) (c0 : Nat) (l0 : List (S70)) (A1 : Option Addr) (c1 : Nat) (l1 : List (S70)) (r1 : List (S64)) (r2 : Bool) (w : World) (hr0 : Kd.C k70 w A0 l0.length l0) (hc0 : l0.length ≤ c0) (hr1 : Kd.C k70 w A1 l1.length l1) (hc1 : l1.length ≤ c1) (h : impl_SharedLegs.f k l0 l1 = some (r1, r2)) :
  Calls Try.prog 27 #[.slice A0 l0.length c0, .slice A1 l1.length c1] w fun e w' => ∃ v0_ : Value, e = .returned (.tuple #[v0_, .bool r2]) ∧ Kd.R k64 64 w' w.heap.size (fun _ => True) v0_ r1 ∧ Below w.heap.size w w' := by
 have HR0 := Aside0.mk hr0
 have HC0 := Aside0.mk hc0
 clear hr0 hc0
 have HR1 := Aside0.mk hr1
 have HC1 := Aside0.mk hc1
 clear hr1 hc1
 have HB := Aside0.mk (Below.refl w.heap.size w)
 have H := h
 clear h
 unfold impl_SharedLegs.f at H
 replace H := bA H
 obtain ⟨t183, A3, H⟩ := H
 rcases Bool.eq_false_or_eq_true t183 with rfl | rfl
 ·replace H := iT rfl H
  replace H := bA H
  obtain ⟨t184, A5, H⟩ := H
  rcases Bool.eq_false_or_eq_true t184 with rfl | rfl
  ·replace H := iT rfl H
   replace H := bA H
   obtain ⟨t185, A7, H⟩ := H
   simp only [Option.some.injEq, Prod.mk.injEq] at H
   obtain ⟨rfl, rfl⟩ := H
   go_enter Try.func27, Try.ntmps27
   go_wp2_with (first | ((with_reducible refine gC 62 ?_); refine lA (some 7) Try.func62 (impl_areLegs.calls k _ _ l0 true _ ?side1 ?side2 A3.out) ?_; (case side1 => repeat (first | exact HR0.out | (with_reducible refine Kd.C_alloc ?_ _) | (with_reducible refine Kd.C_drewN ?_ _) | (with_reducible refine Kd.C_drew ?_))); (case side2 => exact HC0.out); intro w8 hb; replace HB := uB HB hb; (try clear hb)) | (go_at_call 62; (with_reducible refine (impl_areLegs.calls k _ _ l1 true _ ?side1 ?side2 A5.out).mono ?_); (case side1 => repeat (first | exact (Kd.C_below HR1.out HB.out) | (with_reducible refine Kd.C_alloc ?_ _) | (with_reducible refine Kd.C_drewN ?_ _) | (with_reducible refine Kd.C_drew ?_))); (case side2 => exact HC1.out); rintro e w9 ⟨rfl, hb⟩; replace HB := uB HB hb; (try clear hb)) | ((with_reducible refine gate_callee (f := 63) rfl ?_); refine goesL_ (some 16) rfl rfl Try.func63 (by kernel_rfl) rfl #[.slice A0 l0.length c0, .slice A1 l1.length c1, .func (.func 64) #[] #[]] rfl argsB ?_; (with_reducible refine (impl_sharedLegs.calls k _ _ l0 _ _ l1 0 t185 _ ?side1 ?side2 ?side3 ?side4 A7.out).mono ?_); (case side1 => repeat (first | exact (Kd.C_below HR0.out HB.out) | (with_reducible refine Kd.C_alloc ?_ _) | (with_reducible refine Kd.C_drewN ?_ _) | (with_reducible refine Kd.C_drew ?_))); (case side2 => exact HC0.out); (case side3 => repeat (first | exact (Kd.C_below HR1.out HB.out) | (with_reducible refine Kd.C_alloc ?_ _) | (with_reducible refine Kd.C_drewN ?_ _) | (with_reducible refine Kd.C_drew ?_))); (case side4 => exact HC1.out); rintro e w10 ⟨v186, rfl, ho0, hb⟩; refine ⟨_, rfl, ?_⟩; have HO187 := Aside0.mk (Kd.R_lower ho0 (below_size (bW HB))); replace HB := uB HB hb; (try clear hb); (try clear ho0)))
   go_ret2
   exact ⟨_, eB, upR HO187.out, (bW HB)⟩
  ·replace H := iF (by decide) H
   simp only [Option.some.injEq, Prod.mk.injEq] at H
   obtain ⟨rfl, rfl⟩ := H
   go_enter Try.func27, Try.ntmps27
   go_wp2_with (first | ((with_reducible refine gC 62 ?_); refine lA (some 7) Try.func62 (impl_areLegs.calls k _ _ l0 true _ ?side1 ?side2 A3.out) ?_; (case side1 => repeat (first | exact HR0.out | (with_reducible refine Kd.C_alloc ?_ _) | (with_reducible refine Kd.C_drewN ?_ _) | (with_reducible refine Kd.C_drew ?_))); (case side2 => exact HC0.out); intro w11 hb; replace HB := uB HB hb; (try clear hb)) | (go_at_call 62; (with_reducible refine (impl_areLegs.calls k _ _ l1 false _ ?side1 ?side2 A5.out).mono ?_); (case side1 => repeat (first | exact (Kd.C_below HR1.out HB.out) | (with_reducible refine Kd.C_alloc ?_ _) | (with_reducible refine Kd.C_drewN ?_ _) | (with_reducible refine Kd.C_drew ?_))); (case side2 => exact HC1.out); rintro e w12 ⟨rfl, hb⟩; replace HB := uB HB hb; (try clear hb)))
   go_ret2
   exact ⟨_, eB, by first | exact Kd.R_nil _ _ _ _ _ | exact Kd.N_nil _ _ _ _ _ | exact Kd.V_nil _ _ _ _ _ | exact Kd.Q_nil _ _ _ _ _ | exact Kd.S_nil _ _ _ _ _, (bW HB)⟩
 ·replace H := iF (by decide) H
  simp only [Option.some.injEq, Prod.mk.injEq] at H
  obtain ⟨rfl, rfl⟩ := H
  go_enter Try.func27, Try.ntmps27
  go_wp2_with (first | ((with_reducible refine gC 62 ?_); refine lA (some 7) Try.func62 (impl_areLegs.calls k _ _ l0 false _ ?side1 ?side2 A3.out) ?_; (case side1 => repeat (first | exact HR0.out | (with_reducible refine Kd.C_alloc ?_ _) | (with_reducible refine Kd.C_drewN ?_ _) | (with_reducible refine Kd.C_drew ?_))); (case side2 => exact HC0.out); intro w13 hb; replace HB := uB HB hb; (try clear hb)))
  go_ret2
  exact ⟨_, eB, by first | exact Kd.R_nil _ _ _ _ _ | exact Kd.N_nil _ _ _ _ _ | exact Kd.V_nil _ _ _ _ _ | exact Kd.Q_nil _ _ _ _ _ | exact Kd.S_nil _ _ _ _ _, (bW HB)⟩

end Go.Proofs.Ytfaojmabalplfaa.QFnClubs
