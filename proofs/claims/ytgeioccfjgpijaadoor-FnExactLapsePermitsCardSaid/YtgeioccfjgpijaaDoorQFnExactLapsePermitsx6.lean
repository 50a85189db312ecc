/- Contracts of Go functions that FnExactLapsePermits reaches: the call computes what the plain function says. No condition. -/
import Derived.Test.YtgeioccfjgpijaaDoorQFnExactLapsePermitsx0
import Derived.Test.YtgeioccfjgpijaaDoorQFnExactLapsePermitsx4
import Derived.Test.YtgeioccfjgpijaaDoorQFnExactLapsePermitsx5
namespace Go.Proofs.YtgeioccfjgpijaaDoor.QFnExactLapsePermits
open Go.RowKit Go.Proofs.YtgeioccfjgpijaaDoorW.PrintWords Go.Proofs.YtgeioccfjgpijaaDoorW.PrintLast Go.Proofs.YtgeioccfjgpijaaDoorW.PrintMore
attribute [local go_sem] max2_int min2_int max_two min_two max_three min_three max_four min_four   -- for this text's walks alone
set_option linter.unusedVariables false
set_option linter.unusedSimpArgs false

/-! ### spec_l22With: function 71 -/
def spec_l22With.f (l0 : List (S26)) (a1 : Int) (a2 : Int) : Option ((List (S26))) := (some (([] : List (S26)) : List (S26))).bind fun y161 => (if y161.length + l0.length < 2513169434916 then ((some (y161 ++ l0 : List (S26))).bind fun y164 => (if 0 ≤ a1 then (if a1 < (y164.length : Int) then (some (y164.set (a1 : Int).toNat (⟨(rd_T26 y164 a1).f0, (rd_T26 y164 a1).f1, (rd_T26 y164 a1).f2, (rd_T26 y164 a1).f3, (rd_T26 y164 a1).f4, a2⟩ : S26))) else (none)) else (none))) else (none))
set_option maxHeartbeats 8000000 in
set_option maxRecDepth 100000 in
theorem spec_l22With.calls (A0 : Option Addr) (c0 : Nat) (l0 : List (S26)) (a1 : Int) (a2 : Int) (r : List (S26)) (w : World) (hr0 : Kd.C k26 w A0 l0.length l0) (hc0 : l0.length ≤ c0) (h : spec_l22With.f l0 a1 a2 = some r) :
    Calls Tryd.prog 71 #[.slice A0 l0.length c0, .int .i64 a1, .int .i64 a2] w fun e w' => ∃ v0_ : Value, e = .returned (v0_) ∧ Kd.R k26 26 w' w.heap.size (fun _ => True) v0_ r ∧ Below w.heap.size w w' := by
  have hu26 := Tryd.underlying26
  have HR0 := Aside0.mk hr0
  have HC0 := Aside0.mk hc0
  clear hr0 hc0
  have HB := Aside0.mk (Below.refl w.heap.size w)
  have H : ((some (([] : List (S26)) : List (S26))).bind fun y161 => (if y161.length + l0.length < 2513169434916 then ((some (y161 ++ l0 : List (S26))).bind fun y164 => (if 0 ≤ a1 then (if a1 < (y164.length : Int) then (some (y164.set (a1 : Int).toNat (⟨(rd_T26 y164 a1).f0, (rd_T26 y164 a1).f1, (rd_T26 y164 a1).f2, (rd_T26 y164 a1).f3, (rd_T26 y164 a1).f4, a2⟩ : S26))) else (none)) else (none))) else (none))) = some r := h
  clear h
  obtain ⟨y161, hy161⟩ : ∃ y_ : List (S26), y_ = (([] : List (S26))) := ⟨_, rfl⟩
  replace H : (if y161.length + l0.length < 2513169434916 then ((some (y161 ++ l0 : List (S26))).bind fun y164 => (if 0 ≤ a1 then (if a1 < (y164.length : Int) then (some (y164.set (a1 : Int).toNat (⟨(rd_T26 y164 a1).f0, (rd_T26 y164 a1).f1, (rd_T26 y164 a1).f2, (rd_T26 y164 a1).f3, (rd_T26 y164 a1).f4, a2⟩ : S26))) else (none)) else (none))) else (none)) = some r := by first | (rw [hy161]; with_reducible exact H) | (have H2_ := (Option.bind_some _ _).symm.trans H; rw [hy161]; with_reducible exact H2_) | (have H2_ := (Option.bind_some _ _).symm.trans H; with_reducible exact H2_) | with_reducible exact H | (rw [hy161]; exact H) | exact H
  have Ny161 := Aside0.mk hy161
  clear hy161
  by_cases c4 : y161.length + l0.length < 2513169434916
  · rw [if_pos c4] at H
    have LMc4 := Aside0.mk c4
    clear c4
    obtain ⟨y164, hy164⟩ : ∃ y_ : List (S26), y_ = (y161 ++ l0) := ⟨_, rfl⟩
    replace H : (if 0 ≤ a1 then (if a1 < (y164.length : Int) then (some (y164.set (a1 : Int).toNat (⟨(rd_T26 y164 a1).f0, (rd_T26 y164 a1).f1, (rd_T26 y164 a1).f2, (rd_T26 y164 a1).f3, (rd_T26 y164 a1).f4, a2⟩ : S26))) else (none)) else (none)) = some r := by first | (rw [hy164]; with_reducible exact H) | (have H2_ := (Option.bind_some _ _).symm.trans H; rw [hy164]; with_reducible exact H2_) | (have H2_ := (Option.bind_some _ _).symm.trans H; with_reducible exact H2_) | with_reducible exact H | (rw [hy164]; exact H) | exact H
    have Ny164 := Aside0.mk hy164
    clear hy164
    by_cases c5 : 0 ≤ a1
    · rw [if_pos c5] at H
      have c5b0 : decide (0 ≤ a1) = true := decide_eq_true c5
      clear c5
      by_cases c6 : a1 < (y164.length : Int)
      · rw [if_pos c6] at H
        have c6b0 : decide (a1 < (y164.length : Int)) = true := decide_eq_true c6
        clear c6
        obtain ⟨y169, hy169⟩ : ∃ y_ : List (S26), y_ = (y164.set (a1 : Int).toNat (⟨(rd_T26 y164 a1).f0, (rd_T26 y164 a1).f1, (rd_T26 y164 a1).f2, (rd_T26 y164 a1).f3, (rd_T26 y164 a1).f4, a2⟩ : S26)) := ⟨_, rfl⟩
        replace H : (some y169) = some r := by first | (rw [hy169]; with_reducible exact H) | (have H2_ := (Option.bind_some _ _).symm.trans H; rw [hy169]; with_reducible exact H2_) | (have H2_ := (Option.bind_some _ _).symm.trans H; with_reducible exact H2_) | with_reducible exact H | (rw [hy169]; exact H) | exact H
        have Ny169 := Aside0.mk hy169
        clear hy169
        obtain rfl := Option.some.inj H
        go_enter Tryd.func71, Tryd.ntmps71
        go_wp2_with (first | ((with_reducible refine gate_dst (N := 9) rfl ?_); refine Kd.R_lit k26 _ 26 ?hg (N := 9) ?hd (xs := ([] : List (S26))) (inner := []) (ok := fun _ => True) (okp := fun _ => True) ?hr ?hp (fun _ hk => hk) trivial (Below.refl _ _) (Nat.le_refl _) (by simp) ?_; (case hd => rfl); (case hg => rfl); (case hr => first | (go_simp; done) | (go_simp; rfl)); (case hp => exact (Reps.none _ _)); intro v162 w8 ho9 hb hg_ hnew_; clear hg_ hnew_; (first | rw [← Ny161.out] at ho9 | (simp only [Int.reduceToNat] at ho9; rw [← Ny161.out] at ho9)); have n0_ := Aside0.mk (Kd.R_lower ho9 (below_size (upB HB.out))); have n1_ := Aside0.mk (below_step (upB HB.out) hb); clear HB; have HO163 := n0_; have HB := n1_; clear n0_ n1_; clear hb ho9) | ((with_reducible refine gate_builtin (b := .append) (xs := #[.tmp 9, .tmp 10]) rfl ?_); at_builtin; refine Kd.R_append_rows k26 (w0 := w) w.heap.size rfl (.tmp 9) (.tmp 10) 32 26 (.agg #[(.int .i64 0), (.string ⟨#[]⟩), (.int .i64 0), (.int .i64 0), (.int .i64 0), (.int .i64 0)]) 56 rfl Tryd.underlying32 info26 rfl (by decide) (by omega) v162 y161 l0 _ _ _ (fun _ => True) (fun _ => False) rfl rfl ?aO ?aR (fun _ _ h => h) (fun _ h => h.elim) ?aF ?aB ?aS ?aL ?_; (case aR => repeat (first | exact (Kd.C_below HR0.out HB.out) | (with_reducible refine Kd.C_alloc ?_ _) | (with_reducible refine Kd.C_drewN ?_ _) | (with_reducible refine Kd.C_drew ?_))); (case aB => exact (upB HB.out)); (case aF => exact (fun _ _ => trivial)); (case aO => exact (upR HO163.out)); (case aS => exact (below_size (upB HB.out))); (case aL => have := LMc4.out; omega); intro v165 w10 ho hb hg hat; rw [← Ny164.out] at ho; have n0_ := Aside0.mk (hb); have n1_ := Aside0.mk (ho); clear HB; clear HO163; have HB := n0_; have HO166 := n1_; clear n0_ n1_; clear ho hb hg hat; obtain ⟨Ao11, co11, eo11⟩ := Kd.R_slice HO166.out; subst eo11; have p167 : 0 ≤ (a1 : Int) := of_decide_eq_true asmB; have q167 : a1 < (y164.length : Int) := of_decide_eq_true asmB; obtain ⟨ad167, e167, hx167_0, hx167_1, hx167_2, hx167_3, hx167_4, hx167_5⟩ := at_T26 (Kd.R_reads' HO166.out).2.2 a1 p167 q167; cases e167; replace p167 := eq_true p167; replace q167 := eq_true q167) | ((with_reducible refine gate_dst (N := 8) rfl ?_); refine box_event ?hg (N := 8) ?hd (cs := #[.int .i64 0, .string (⟨#[]⟩ : ByteArray), .int .i64 0, .int .i64 0, .int .i64 0, .int .i64 0]) (t := 26) ?hr ?_; (case hd => rfl); (case hg => rfl); (case hr => first | (go_simp; done) | (go_simp; rfl)); intro gb168 hg w12 hbox hb; have n0_ := Aside0.mk (Kd.R_below (Kd.R_elderB (upR HO166.out) gb168 (Nat.le_of_eq hg.symm)) hb); have n1_ := Aside0.mk (below_step (upB HB.out) hb); have n2_ := Aside0.mk (hbox); have n3_ := Aside0.mk ((by rw [hg]; exact (below_size (upB HB.out)) : w.heap.size ≤ gb168)); have n4_ := Aside0.mk ((by rw [hg]; exact (below_size (upB HB.out)) : w.heap.size ≤ gb168)); clear HO166; clear HB; have HO166 := n0_; have HB := n1_; have BK168 := n2_; have GW168 := n3_; have GE168 := n4_; clear n0_ n1_ n2_ n3_ n4_; clear hb hbox hg; have hcz13_0 := ci BK168.out 0 0 rfl; have hcz13_1 : w12.cell? ⟨gb168, 1, none⟩ = some (.string (⟨#[]⟩ : ByteArray)) := (blk_cell BK168.out 1).trans rfl; have hcz13_2 := ci BK168.out 2 0 rfl; have hcz13_3 := ci BK168.out 3 0 rfl; have hcz13_4 := ci BK168.out 4 0 rfl; have hcz13_5 := ci BK168.out 5 0 rfl; have hfz13_0 := fun j_ : Nat => blk_frozen BK168.out j_) | ((with_reducible refine gate_store (t := 26) (p := 8) rfl ?_); refine store_event (t := 26) (p := 8) (v := ?vo_w14) (w1 := ((((((w12.setCell ⟨gb168, 0, none⟩ (.int .i64 ((rd_T26 y164 a1).f0))).setCell ⟨gb168, 1, none⟩ (.string ((rd_T26 y164 a1).f1))).setCell ⟨gb168, 2, none⟩ (.int .i64 ((rd_T26 y164 a1).f2))).setCell ⟨gb168, 3, none⟩ (.int .i64 ((rd_T26 y164 a1).f3))).setCell ⟨gb168, 4, none⟩ (.int .i64 ((rd_T26 y164 a1).f4))).setCell ⟨gb168, 5, none⟩ (.int .i64 ((rd_T26 y164 a1).f5)))) ?hg ?ho ?hn ?hr ?_; (case ho => rfl); (case hg => rfl); (case hn => rfl); (case hr => first | (go_simp; done) | (go_simp; rfl)); intro w14 hw; have n0_ : Aside0 (Kd.R k26 26 w14 w.heap.size (fun k_ => k_ ≠ gb168) (.slice (some ad167) y164.length co11) y164) := ⟨(by rw [hw]; exact (by (with_reducible repeat (first | apply Kd.R_alloc | apply Kd.R_drewN | apply Kd.R_drew)); exact Kd.R_mono (Kd.R_far (p := ⟨gb168, 5, none⟩) (Kd.R_far (p := ⟨gb168, 4, none⟩) (Kd.R_far (p := ⟨gb168, 3, none⟩) (Kd.R_far (p := ⟨gb168, 2, none⟩) (Kd.R_far (p := ⟨gb168, 1, none⟩) (Kd.R_far (p := ⟨gb168, 0, none⟩) (Kd.R_mono HO166.out (fun k_ hk => (⟨hk, hk.2⟩ : _ ∧ k_ ≠ gb168))) (fun _ hk => hk.2) (.int .i64 ((rd_T26 y164 a1).f0))) (fun _ hk => hk.2) (.string ((rd_T26 y164 a1).f1))) (fun _ hk => hk.2) (.int .i64 ((rd_T26 y164 a1).f2))) (fun _ hk => hk.2) (.int .i64 ((rd_T26 y164 a1).f3))) (fun _ hk => hk.2) (.int .i64 ((rd_T26 y164 a1).f4))) (fun _ hk => hk.2) (.int .i64 ((rd_T26 y164 a1).f5))) (fun _ hk => hk.1.2)))⟩; have n1_ : Aside0 (w14.heap[gb168]? = some (.cells #[.int .i64 ((rd_T26 y164 a1).f0), .string ((rd_T26 y164 a1).f1), .int .i64 ((rd_T26 y164 a1).f2), .int .i64 ((rd_T26 y164 a1).f3), .int .i64 ((rd_T26 y164 a1).f4), .int .i64 ((rd_T26 y164 a1).f5)] 26 (0, 0))) := ⟨(by rw [hw]; exact (by (with_reducible repeat (first | refine blk_drewN ?_ _ | refine blk_drew ?_ | refine blk_alloc ?_ _)); refine blk_put (cs := #[.int .i64 ((rd_T26 y164 a1).f0), .string ((rd_T26 y164 a1).f1), .int .i64 ((rd_T26 y164 a1).f2), .int .i64 ((rd_T26 y164 a1).f3), .int .i64 ((rd_T26 y164 a1).f4), .int .i64 0]) ?_ 5 _ rfl; (with_reducible repeat (first | refine blk_drewN ?_ _ | refine blk_drew ?_ | refine blk_alloc ?_ _)); refine blk_put (cs := #[.int .i64 ((rd_T26 y164 a1).f0), .string ((rd_T26 y164 a1).f1), .int .i64 ((rd_T26 y164 a1).f2), .int .i64 ((rd_T26 y164 a1).f3), .int .i64 0, .int .i64 0]) ?_ 4 _ rfl; (with_reducible repeat (first | refine blk_drewN ?_ _ | refine blk_drew ?_ | refine blk_alloc ?_ _)); refine blk_put (cs := #[.int .i64 ((rd_T26 y164 a1).f0), .string ((rd_T26 y164 a1).f1), .int .i64 ((rd_T26 y164 a1).f2), .int .i64 0, .int .i64 0, .int .i64 0]) ?_ 3 _ rfl; (with_reducible repeat (first | refine blk_drewN ?_ _ | refine blk_drew ?_ | refine blk_alloc ?_ _)); refine blk_put (cs := #[.int .i64 ((rd_T26 y164 a1).f0), .string ((rd_T26 y164 a1).f1), .int .i64 0, .int .i64 0, .int .i64 0, .int .i64 0]) ?_ 2 _ rfl; (with_reducible repeat (first | refine blk_drewN ?_ _ | refine blk_drew ?_ | refine blk_alloc ?_ _)); refine blk_put (cs := #[.int .i64 ((rd_T26 y164 a1).f0), .string (⟨#[]⟩ : ByteArray), .int .i64 0, .int .i64 0, .int .i64 0, .int .i64 0]) ?_ 1 _ rfl; (with_reducible repeat (first | refine blk_drewN ?_ _ | refine blk_drew ?_ | refine blk_alloc ?_ _)); refine blk_put (cs := #[.int .i64 0, .string (⟨#[]⟩ : ByteArray), .int .i64 0, .int .i64 0, .int .i64 0, .int .i64 0]) ?_ 0 _ rfl; (with_reducible repeat (first | refine blk_drewN ?_ _ | refine blk_drew ?_ | refine blk_alloc ?_ _)); exact BK168.out))⟩; have n2_ : Aside0 (Below w.heap.size w w14) := ⟨(by rw [hw]; exact (upB1 HB.out GE168.out))⟩; clear hw; clear HO166; clear BK168; clear HB; have HO166 := n0_; have BK168 := n1_; have HB := n2_; clear n0_ n1_ n2_; have hcz15_0 := ci BK168.out 0 ((rd_T26 y164 a1).f0) rfl; have hcz15_1 : w14.cell? ⟨gb168, 1, none⟩ = some (.string ((rd_T26 y164 a1).f1)) := (blk_cell BK168.out 1).trans rfl; have hcz15_2 := ci BK168.out 2 ((rd_T26 y164 a1).f2) rfl; have hcz15_3 := ci BK168.out 3 ((rd_T26 y164 a1).f3) rfl; have hcz15_4 := ci BK168.out 4 ((rd_T26 y164 a1).f4) rfl; have hcz15_5 := ci BK168.out 5 ((rd_T26 y164 a1).f5) rfl; have hfz15_0 := fun j_ : Nat => blk_frozen BK168.out j_) | ((with_reducible refine gate_store (t := 3) (p := 17) rfl ?_); refine store_event (t := 3) (p := 17) (v := ?vo_w16) (w1 := (w14.setCell ⟨gb168, 5, none⟩ (.int .i64 a2))) ?hg ?ho ?hn ?hr ?_; (case ho => rfl); (case hg => rfl); (case hn => rfl); (case hr => first | (go_simp; done) | (go_simp; rfl)); intro w16 hw; have n0_ : Aside0 (Kd.R k26 26 w16 w.heap.size (fun k_ => k_ ≠ gb168) (.slice (some ad167) y164.length co11) y164) := ⟨(by rw [hw]; exact (by (with_reducible repeat (first | apply Kd.R_alloc | apply Kd.R_drewN | apply Kd.R_drew)); exact Kd.R_mono (Kd.R_far (p := ⟨gb168, 5, none⟩) (Kd.R_mono HO166.out (fun k_ hk => (⟨hk, hk⟩ : _ ∧ k_ ≠ gb168))) (fun _ hk => hk.2) (.int .i64 a2)) (fun _ hk => hk.1)))⟩; have n1_ : Aside0 (w16.heap[gb168]? = some (.cells #[.int .i64 ((rd_T26 y164 a1).f0), .string ((rd_T26 y164 a1).f1), .int .i64 ((rd_T26 y164 a1).f2), .int .i64 ((rd_T26 y164 a1).f3), .int .i64 ((rd_T26 y164 a1).f4), .int .i64 a2] 26 (0, 0))) := ⟨(by rw [hw]; exact (by (with_reducible repeat (first | refine blk_drewN ?_ _ | refine blk_drew ?_ | refine blk_alloc ?_ _)); refine blk_put (cs := #[.int .i64 ((rd_T26 y164 a1).f0), .string ((rd_T26 y164 a1).f1), .int .i64 ((rd_T26 y164 a1).f2), .int .i64 ((rd_T26 y164 a1).f3), .int .i64 ((rd_T26 y164 a1).f4), .int .i64 ((rd_T26 y164 a1).f5)]) ?_ 5 _ rfl; (with_reducible repeat (first | refine blk_drewN ?_ _ | refine blk_drew ?_ | refine blk_alloc ?_ _)); exact BK168.out))⟩; have n2_ : Aside0 (Below w.heap.size w w16) := ⟨(by rw [hw]; exact (upB1 HB.out GE168.out))⟩; clear hw; clear HO166; clear BK168; clear HB; have HO166 := n0_; have BK168 := n1_; have HB := n2_; clear n0_ n1_ n2_; have hcz17_0 := ci BK168.out 0 ((rd_T26 y164 a1).f0) rfl; have hcz17_1 : w16.cell? ⟨gb168, 1, none⟩ = some (.string ((rd_T26 y164 a1).f1)) := (blk_cell BK168.out 1).trans rfl; have hcz17_2 := ci BK168.out 2 ((rd_T26 y164 a1).f2) rfl; have hcz17_3 := ci BK168.out 3 ((rd_T26 y164 a1).f3) rfl; have hcz17_4 := ci BK168.out 4 ((rd_T26 y164 a1).f4) rfl; have hcz17_5 := ci BK168.out 5 a2 rfl; have hfz17_0 := fun j_ : Nat => blk_frozen BK168.out j_; have p7 : 0 ≤ (a1 : Int) := of_decide_eq_true asmB; have q7 : (a1 : Int) < ((y164.length : Int) : Int) := of_decide_eq_true asmB; obtain ⟨go7, co7, eo7, gb7, gl7, cl7, HG7⟩ := Kd.R_form HO166.out (by omega); (first | cases eo7 | (injection eo7 with ea_ en_ ec_; (first | subst ea_ | (injection ea_ with ea_; subst ea_)); subst ec_; clear en_)); have GB7 := Aside0.mk gb7; have GG7 := Aside0.mk HG7; clear gb7 gl7 HG7; (first | simp only [add_plain] at hx167_0 | skip); (first | simp only [add_plain] at hx167_1 | skip); (first | simp only [add_plain] at hx167_2 | skip); (first | simp only [add_plain] at hx167_3 | skip); (first | simp only [add_plain] at hx167_4 | skip); (first | simp only [add_plain] at hx167_5 | skip); obtain ⟨ce7, hcl7, hM7, hcc7, hfr7⟩ := Kd.R_elem HO166.out z26 (a1 : Int) p7 q7; obtain rfl := k26_openM hM7; have hx7_0 : w16.cell? ⟨go7, (a1 : Int).toNat * 6, none⟩ = some (.int .i64 ((rd_T26 y164 a1).f0)) := hcc7 0 _ rfl; have hx7_1 : w16.cell? ⟨go7, (a1 : Int).toNat * 6 + 1, none⟩ = some (.string ((rd_T26 y164 a1).f1)) := hcc7 1 _ rfl; have hx7_2 : w16.cell? ⟨go7, (a1 : Int).toNat * 6 + 2, none⟩ = some (.int .i64 ((rd_T26 y164 a1).f2)) := hcc7 2 _ rfl; have hx7_3 : w16.cell? ⟨go7, (a1 : Int).toNat * 6 + 3, none⟩ = some (.int .i64 ((rd_T26 y164 a1).f3)) := hcc7 3 _ rfl; have hx7_4 : w16.cell? ⟨go7, (a1 : Int).toNat * 6 + 4, none⟩ = some (.int .i64 ((rd_T26 y164 a1).f4)) := hcc7 4 _ rfl; have hx7_5 : w16.cell? ⟨go7, (a1 : Int).toNat * 6 + 5, none⟩ = some (.int .i64 ((rd_T26 y164 a1).f5)) := hcc7 5 _ rfl; have hf7_0 : w16.frozen? ⟨go7, (a1 : Int).toNat * 6, none⟩ = false := hfr7 0; have hf7_1 : w16.frozen? ⟨go7, (a1 : Int).toNat * 6 + 1, none⟩ = false := hfr7 1; have hf7_2 : w16.frozen? ⟨go7, (a1 : Int).toNat * 6 + 2, none⟩ = false := hfr7 2; have hf7_3 : w16.frozen? ⟨go7, (a1 : Int).toNat * 6 + 3, none⟩ = false := hfr7 3; have hf7_4 : w16.frozen? ⟨go7, (a1 : Int).toNat * 6 + 4, none⟩ = false := hfr7 4; have hf7_5 : w16.frozen? ⟨go7, (a1 : Int).toNat * 6 + 5, none⟩ = false := hfr7 5; clear hcl7 hcc7 hfr7 hM7; replace p7 := eq_true p7; replace q7 := eq_true q7; have HX18 := Aside0.mk (show Kd.R k26 26 w16 w.heap.size (fun k_ => k_ ≠ gb168) (.slice (some ⟨go7, 0, none⟩) y164.length co11) y164 from (upR HO166.out)); obtain ⟨ce18, hcl18, hM18, hcc18, hfr18⟩ := Kd.R_elem HX18.out z26 (a1 : Int) (of_decide_eq_true asmB) (by have h_ : (a1 : Int) < ((y164.length : Int) : Int) := of_decide_eq_true asmB; first | exact h_ | (have e_ := (Kd.R_reads' HO166.out).1; omega) | simpa using h_); obtain rfl := k26_openM hM18; have HP18 := Kd.R_seg HX18.out (a1 : Int) (of_decide_eq_true asmB) (by have h_ : (a1 : Int) < ((y164.length : Int) : Int) := of_decide_eq_true asmB; first | exact h_ | (have e_ := (Kd.R_reads' HO166.out).1; omega) | simpa using h_) (seg := [.int .i64 ((rd_T26 y164 a1).f0), .string ((rd_T26 y164 a1).f1), .int .i64 ((rd_T26 y164 a1).f2), .int .i64 ((rd_T26 y164 a1).f3), .int .i64 ((rd_T26 y164 a1).f4), .int .i64 a2]) (j := 0) hcl18 hcc18 (show 6 ≤ 6 from by decide) (x' := (⟨(rd_T26 y164 a1).f0, (rd_T26 y164 a1).f1, (rd_T26 y164 a1).f2, (rd_T26 y164 a1).f3, (rd_T26 y164 a1).f4, a2⟩ : S26)) (k26_mkM _ _ _ (⟨(rd_T26 y164 a1).f0, (rd_T26 y164 a1).f1, (rd_T26 y164 a1).f2, (rd_T26 y164 a1).f3, (rd_T26 y164 a1).f4, a2⟩ : S26) ) (fun _ hk => hk); have hx18_0 := hcc18 0 _ rfl; (try simp only [show (k26).sz = 6 from rfl, Nat.mul_one, Nat.add_zero] at hx18_0); have hf18_0 := hfr18 0; (try simp only [show (k26).sz = 6 from rfl, Nat.mul_one, Nat.add_zero] at hf18_0); have hx18_1 := hcc18 1 _ rfl; (try simp only [show (k26).sz = 6 from rfl, Nat.mul_one, Nat.add_zero] at hx18_1); have hf18_1 := hfr18 1; (try simp only [show (k26).sz = 6 from rfl, Nat.mul_one, Nat.add_zero] at hf18_1); have hx18_2 := hcc18 2 _ rfl; (try simp only [show (k26).sz = 6 from rfl, Nat.mul_one, Nat.add_zero] at hx18_2); have hf18_2 := hfr18 2; (try simp only [show (k26).sz = 6 from rfl, Nat.mul_one, Nat.add_zero] at hf18_2); have hx18_3 := hcc18 3 _ rfl; (try simp only [show (k26).sz = 6 from rfl, Nat.mul_one, Nat.add_zero] at hx18_3); have hf18_3 := hfr18 3; (try simp only [show (k26).sz = 6 from rfl, Nat.mul_one, Nat.add_zero] at hf18_3); have hx18_4 := hcc18 4 _ rfl; (try simp only [show (k26).sz = 6 from rfl, Nat.mul_one, Nat.add_zero] at hx18_4); have hf18_4 := hfr18 4; (try simp only [show (k26).sz = 6 from rfl, Nat.mul_one, Nat.add_zero] at hf18_4); have hx18_5 := hcc18 5 _ rfl; (try simp only [show (k26).sz = 6 from rfl, Nat.mul_one, Nat.add_zero] at hx18_5); have hf18_5 := hfr18 5; (try simp only [show (k26).sz = 6 from rfl, Nat.mul_one, Nat.add_zero] at hf18_5); clear hcl18 hcc18 hfr18 hM18) | ((with_reducible refine gate_store (t := 26) (p := 21) rfl ?_); refine store_event (t := 26) (p := 21) (v := ?vo_w19) (w1 := ((((((w16.setCell ⟨go7, (a1 : Int).toNat * 6, none⟩ (.int .i64 ((rd_T26 y164 a1).f0))).setCell ⟨go7, (a1 : Int).toNat * 6 + 1, none⟩ (.string ((rd_T26 y164 a1).f1))).setCell ⟨go7, (a1 : Int).toNat * 6 + 2, none⟩ (.int .i64 ((rd_T26 y164 a1).f2))).setCell ⟨go7, (a1 : Int).toNat * 6 + 3, none⟩ (.int .i64 ((rd_T26 y164 a1).f3))).setCell ⟨go7, (a1 : Int).toNat * 6 + 4, none⟩ (.int .i64 ((rd_T26 y164 a1).f4))).setCell ⟨go7, (a1 : Int).toNat * 6 + 5, none⟩ (.int .i64 a2))) ?hg ?ho ?hn ?hr ?_; (case ho => rfl); (case hg => rfl); (case hn => rfl); (case hr => first | (go_simp; done) | (go_simp; rfl)); intro w19 hw; have hg : w16.grownBy w19 (some go7) := (by rw [hw]; exact HP18.2); have hp_ : Kd.R k26 26 w19 w.heap.size (fun k_ => k_ ≠ gb168) (.slice (some ⟨go7, 0, none⟩) y164.length co11) y169 := (by rw [hw, Ny169.out]; exact HP18.1); clear HP18; have n0_ := Aside0.mk (hp_); have n1_ := Aside0.mk (blk_grown (g := gb168) (o := .cells #[.int .i64 ((rd_T26 y164 a1).f0), .string ((rd_T26 y164 a1).f1), .int .i64 ((rd_T26 y164 a1).f2), .int .i64 ((rd_T26 y164 a1).f3), .int .i64 ((rd_T26 y164 a1).f4), .int .i64 a2] 26 (0, 0)) (upK BK168.out) hg (Kd.R_away HO166.out (fun _ hk => hk))); have n2_ := Aside0.mk ((by rw [hw]; exact below_set (below_set (below_set (below_set (below_set (below_set (HB.out) GB7.out) GB7.out) GB7.out) GB7.out) GB7.out) GB7.out : Below w.heap.size w w19)); clear HO166; clear BK168; clear HB; have HO166 := n0_; have BK168 := n1_; have HB := n2_; clear n0_ n1_ n2_; clear hg hw hp_))
        go_ret
        exact ⟨_, by first | rfl | (simp [errW_none, errW_some] <;> rfl) | (simp [*, errW_none, errW_some] <;> rfl), by (with_reducible repeat (first | apply Kd.R_alloc | apply Kd.R_drewN | apply Kd.R_drew)); exact Kd.R_mono HO166.out (fun _ hk => trivial), (upB1 HB.out GE168.out)⟩
      · rw [if_neg c6] at H
        exact absurd H (by simp)
    · rw [if_neg c5] at H
      exact absurd H (by simp)
  · rw [if_neg c4] at H
    exact absurd H (by simp)

/-! ### spec_LapsePermits: function 31 -/
mutual
def spec_LapsePermits.j0 : Nat → List (S26) → Int → Bool → Option ((List (S26)) × Int × Bool)
  | 0, _, _, _ => none
  | k + 1, x0, x1, x17 => if x17 = true then (some ((([] : List (S26))), 0, false)) else ((some (([] : List (S26)) : List (S26))).bind fun y175 => (if y175.length + x0.length < 2513169434916 then (spec_LapsePermits.l0 k x1 (y175 ++ x0) 0 0) else (none)))
def spec_LapsePermits.l0 : Nat → Int → List (S26) → Int → Int → Option ((List (S26)) × Int × Bool)
  | 0, _, _, _, _ => none
  | k + 1, x1, x7, x8, x9 => if x9 < (x7.length : Int) then (if 0 ≤ x9 then ((spec_l22Holds.f ((rd_T26 x7 x9).f0) ((rd_T26 x7 x9).f1) ((rd_T26 x7 x9).f2) ((rd_T26 x7 x9).f3) ((rd_T26 x7 x9).f4) ((rd_T26 x7 x9).f5)).bind fun t182 => (if t182 = true then (if ((rd_T26 x7 x9).f3) < x1 then ((spec_l22With.f x7 x9 4).bind fun t184 => (spec_LapsePermits.l0 k x1 t184 (wrap64 (x8 + 1)) (wrap64 (x9 + 1)))) else (spec_LapsePermits.l0 k x1 x7 x8 (wrap64 (x9 + 1)))) else (spec_LapsePermits.l0 k x1 x7 x8 (wrap64 (x9 + 1))))) else (none)) else (some (x7, x8, true))
end
def spec_LapsePermits.f (k : Nat) (l0 : List (S26)) (a1 : Int) : Option ((List (S26)) × Int × Bool) := (spec_l22Good.f k l0).bind fun t170 => (if t170 = true then ((spec_l22Day.f a1).bind fun t171 => (spec_LapsePermits.j0 k l0 a1 (!t171))) else (spec_LapsePermits.j0 k l0 a1 true))
theorem spec_LapsePermits.mono_l : ∀ k, (∀ y0 y1 y2, LeO (spec_LapsePermits.j0 k y0 y1 y2) (spec_LapsePermits.j0 (k + 1) y0 y1 y2)) ∧ (∀ y0 y1 y2 y3, LeO (spec_LapsePermits.l0 k y0 y1 y2 y3) (spec_LapsePermits.l0 (k + 1) y0 y1 y2 y3))
  | 0 => ⟨fun _ _ _ r h => by simp [spec_LapsePermits.j0] at h, fun _ _ _ _ r h => by simp [spec_LapsePermits.l0] at h⟩
  | k + 1 => by
    obtain ⟨ih0, ih1⟩ := spec_LapsePermits.mono_l k
    refine ⟨?_, ?_⟩
    · intro y0 y1 y2
      unfold spec_LapsePermits.j0
      repeat' first
      | (with_reducible exact ih0 _ _ _)
      | (with_reducible exact ih1 _ _ _ _)
      | (with_reducible exact spec_l22Good.mono _ _)
      | (with_reducible exact LeO.refl _)
      | (with_reducible exact LeO.none _)
      | (with_reducible refine LeO.ite ?_ ?_)
      | (with_reducible refine LeO.bind ?_ (fun _ => ?_))
      | exact ih0 _ _ _
      | exact ih1 _ _ _ _
      | exact spec_l22Good.mono _ _
      | exact LeO.none _
      | refine LeO.ite ?_ ?_
      | refine LeO.bind ?_ (fun _ => ?_)
    · intro y0 y1 y2 y3
      unfold spec_LapsePermits.l0
      repeat' first
      | (with_reducible exact ih0 _ _ _)
      | (with_reducible exact ih1 _ _ _ _)
      | (with_reducible exact spec_l22Good.mono _ _)
      | (with_reducible exact LeO.refl _)
      | (with_reducible exact LeO.none _)
      | (with_reducible refine LeO.ite ?_ ?_)
      | (with_reducible refine LeO.bind ?_ (fun _ => ?_))
      | exact ih0 _ _ _
      | exact ih1 _ _ _ _
      | exact spec_l22Good.mono _ _
      | exact LeO.none _
      | refine LeO.ite ?_ ?_
      | refine LeO.bind ?_ (fun _ => ?_)
theorem spec_LapsePermits.mono : ∀ a0 a1 k, LeO (spec_LapsePermits.f k a0 a1) (spec_LapsePermits.f (k + 1) a0 a1) := by
  intro a0 a1 k
  obtain ⟨ih0, ih1⟩ := spec_LapsePermits.mono_l k
  unfold spec_LapsePermits.f
  repeat' first
      | (with_reducible exact ih0 _ _ _)
      | (with_reducible exact ih1 _ _ _ _)
      | (with_reducible exact spec_l22Good.mono _ _)
      | (with_reducible exact LeO.refl _)
      | (with_reducible exact LeO.none _)
      | (with_reducible refine LeO.ite ?_ ?_)
      | (with_reducible refine LeO.bind ?_ (fun _ => ?_))
      | exact ih0 _ _ _
      | exact ih1 _ _ _ _
      | exact spec_l22Good.mono _ _
      | exact LeO.none _
      | refine LeO.ite ?_ ?_
      | refine LeO.bind ?_ (fun _ => ?_)
set_option maxHeartbeats 8000000 in
set_option maxRecDepth 100000 in
theorem spec_LapsePermits.calls (k : Nat) (A0 : Option Addr) (c0 : Nat) (l0 : List (S26)) (a1 : Int) (r1 : List (S26)) (r2 : Int) (r3 : Bool) (w : World) (hr0 : Kd.C k26 w A0 l0.length l0) (hc0 : l0.length ≤ c0) (h : spec_LapsePermits.f k l0 a1 = some (r1, r2, r3)) :
    Calls Tryd.prog 31 #[.slice A0 l0.length c0, .int .i64 a1] w fun e w' => ∃ v0_ : Value, e = .returned (.tuple #[v0_, .int .i64 r2, .bool r3]) ∧ Kd.R k26 26 w' w.heap.size (fun _ => True) v0_ r1 ∧ Below w.heap.size w w' := by
  have hu26 := Tryd.underlying26
  have HR0 := Aside0.mk hr0
  have HC0 := Aside0.mk hc0
  clear hr0 hc0
  have HB := Aside0.mk (Below.refl w.heap.size w)
  have H : ((spec_l22Good.f k l0).bind fun t170 => (if t170 = true then ((spec_l22Day.f a1).bind fun t171 => (spec_LapsePermits.j0 k l0 a1 (!t171))) else (spec_LapsePermits.j0 k l0 a1 true))) = some (r1, r2, r3) := h
  clear h
  have HC3 := Aside0.mk H
  clear H
  go_enter Tryd.func31, Tryd.ntmps31
  go_upto_region 1 with (fail)
  go_cut [17] (fun v17 wc => ∃ (kq : Nat) (x17_2 : Bool), v17 = .bool x17_2 ∧ Aside0 (spec_LapsePermits.j0 kq l0 a1 x17_2 = some (r1, r2, r3)) ∧ Aside0 (kq ≤ k) ∧ Aside0 (Below w.heap.size w wc))
  case first =>
    have H := HC3.out
    clear HC3
    replace H := Option.bind_eq_some_iff.mp H
    obtain ⟨t170, A40, H⟩ := H
    replace H : (if t170 = true then ((spec_l22Day.f a1).bind fun t171 => (spec_LapsePermits.j0 k l0 a1 (!t171))) else (spec_LapsePermits.j0 k l0 a1 true)) = some (r1, r2, r3) := H
    have A4 := Aside0.mk A40
    clear A40
    by_cases c5 : t170 = true
    · subst c5
      have H1 : ((spec_l22Day.f a1).bind fun t171 => (spec_LapsePermits.j0 k l0 a1 (!t171))) = some (r1, r2, r3) := by rw [if_pos rfl] at H; exact H
      clear H
      have H := H1
      clear H1
      replace H := Option.bind_eq_some_iff.mp H
      obtain ⟨t171, A60, H⟩ := H
      replace H : (spec_LapsePermits.j0 k l0 a1 (!t171)) = some (r1, r2, r3) := H
      have A6 := Aside0.mk A60
      clear A60
      have H' := Aside0.mk H
      clear H
      go_wp2_with (first | ((with_reducible refine gate_callee (f := 58) rfl ?_); refine goesL_ (some 11) rfl rfl Tryd.func58 (by kernel_rfl) rfl #[.slice A0 l0.length c0] rfl argsB ?_; (with_reducible refine (spec_l22Good.calls k _ _ l0 true _ ?side1 ?side2 A4.out).mono ?_); (case side1 => repeat (first | exact (Kd.C_below HR0.out HB.out) | (with_reducible refine Kd.C_alloc ?_ _) | (with_reducible refine Kd.C_drewN ?_ _) | (with_reducible refine Kd.C_drew ?_))); (case side2 => exact HC0.out); rintro e w7 ⟨rfl, hb⟩; refine ⟨_, rfl, ?_⟩; have n0_ := Aside0.mk (below_step (upB HB.out) hb); clear HB; have HB := n0_; clear n0_; (try clear hb); (try clear hk)) | (go_at_call 63; (with_reducible refine (spec_l22Day.calls a1 t171 _ A6.out).mono ?_); rintro e w' ⟨rfl, ⟨nd, rfl⟩⟩))
      go_meet
      case rel => exact ⟨_, (!t171), (by first | rfl | (simp; done) | (simp [*]; done)), H', ⟨by first | omega | exact Nat.le_refl _⟩, ⟨(upB HB.out)⟩⟩
    · replace c5 := Bool.eq_false_iff.mpr c5
      subst c5
      have H1 : (spec_LapsePermits.j0 k l0 a1 true) = some (r1, r2, r3) := by rw [if_neg (show ¬ (false = true) by decide)] at H; exact H
      clear H
      have H := H1
      clear H1
      have H' := Aside0.mk H
      clear H
      go_wp2_with (first | ((with_reducible refine gate_callee (f := 58) rfl ?_); refine goesL_ (some 11) rfl rfl Tryd.func58 (by kernel_rfl) rfl #[.slice A0 l0.length c0] rfl argsB ?_; (with_reducible refine (spec_l22Good.calls k _ _ l0 false _ ?side1 ?side2 A4.out).mono ?_); (case side1 => repeat (first | exact (Kd.C_below HR0.out HB.out) | (with_reducible refine Kd.C_alloc ?_ _) | (with_reducible refine Kd.C_drewN ?_ _) | (with_reducible refine Kd.C_drew ?_))); (case side2 => exact HC0.out); rintro e w8 ⟨rfl, hb⟩; refine ⟨_, rfl, ?_⟩; have n0_ := Aside0.mk (below_step (upB HB.out) hb); clear HB; have HB := n0_; clear n0_; (try clear hb); (try clear hk)))
      go_meet
      case rel => exact ⟨_, (true), (by first | rfl | (simp; done) | (simp [*]; done)), H', ⟨by first | omega | exact Nat.le_refl _⟩, ⟨(upB HB.out)⟩⟩
  case rest =>
    clear HC3
    try clear c5
    obtain ⟨kq, x17_2, rfl, HA, HJ2, HB⟩ := hcut
    cases kq with
    | zero => exact absurd HA.out (by simp [spec_LapsePermits.j0])
    | succ kj2 =>
      have H := HA.out
      clear HA
      simp only [spec_LapsePermits.j0] at H
      by_cases c9 : x17_2 = true
      · subst c9
        have H1 : (some ((([] : List (S26))), 0, false)) = some (r1, r2, r3) := by rw [if_pos rfl] at H; exact H
        clear H
        have H := H1
        clear H1
        obtain ⟨y172, hy172⟩ : ∃ y_ : List (S26), y_ = (([] : List (S26))) := ⟨_, rfl⟩
        replace H : (some (y172, 0, false)) = some (r1, r2, r3) := by first | (rw [hy172]; with_reducible exact H) | (have H2_ := (Option.bind_some _ _).symm.trans H; rw [hy172]; with_reducible exact H2_) | (have H2_ := (Option.bind_some _ _).symm.trans H; with_reducible exact H2_) | with_reducible exact H | (rw [hy172]; exact H) | exact H
        have Ny172 := Aside0.mk hy172
        clear hy172
        simp only [Option.some.injEq, Prod.mk.injEq] at H
        obtain ⟨rfl, rfl, rfl⟩ := H
        go_wp2_with (first | ((with_reducible refine gate_dst (N := 18) rfl ?_); refine Kd.R_lit k26 _ 26 ?hg (N := 18) ?hd (xs := ([] : List (S26))) (inner := []) (ok := fun _ => True) (okp := fun _ => True) ?hr ?hp (fun _ hk => hk) trivial (Below.refl _ _) (Nat.le_refl _) (by simp) ?_; (case hd => rfl); (case hg => rfl); (case hr => first | (go_simp; done) | (go_simp; rfl)); (case hp => exact (Reps.none _ _)); intro v173 w10 ho11 hb hg_ hnew_; clear hg_ hnew_; (first | rw [← Ny172.out] at ho11 | (simp only [Int.reduceToNat] at ho11; rw [← Ny172.out] at ho11)); have n0_ := Aside0.mk (Kd.R_lower ho11 (below_size (upB HB.out))); have n1_ := Aside0.mk (below_step (upB HB.out) hb); clear HB; have HO174 := n0_; have HB := n1_; clear n0_ n1_; clear hb ho11))
        go_ret3
        exact ⟨_, by first | rfl | (simp [errW_none, errW_some] <;> rfl) | (simp [*, errW_none, errW_some] <;> rfl), by (with_reducible repeat (first | apply Kd.R_alloc | apply Kd.R_drewN | apply Kd.R_drew)); exact HO174.out, (upB HB.out)⟩
      · replace c9 := Bool.eq_false_iff.mpr c9
        subst c9
        have H1 : ((some (([] : List (S26)) : List (S26))).bind fun y175 => (if y175.length + l0.length < 2513169434916 then (spec_LapsePermits.l0 kj2 a1 (y175 ++ l0) 0 0) else (none))) = some (r1, r2, r3) := by rw [if_neg (show ¬ (false = true) by decide)] at H; exact H
        clear H
        have H := H1
        clear H1
        obtain ⟨y175, hy175⟩ : ∃ y_ : List (S26), y_ = (([] : List (S26))) := ⟨_, rfl⟩
        replace H : (if y175.length + l0.length < 2513169434916 then (spec_LapsePermits.l0 kj2 a1 (y175 ++ l0) 0 0) else (none)) = some (r1, r2, r3) := by first | (rw [hy175]; with_reducible exact H) | (have H2_ := (Option.bind_some _ _).symm.trans H; rw [hy175]; with_reducible exact H2_) | (have H2_ := (Option.bind_some _ _).symm.trans H; with_reducible exact H2_) | with_reducible exact H | (rw [hy175]; exact H) | exact H
        have Ny175 := Aside0.mk hy175
        clear hy175
        by_cases c12 : y175.length + l0.length < 2513169434916
        · rw [if_pos c12] at H
          have LMc12 := Aside0.mk c12
          clear c12
          obtain ⟨y178, hy178⟩ : ∃ y_ : List (S26), y_ = (y175 ++ l0) := ⟨_, rfl⟩
          replace H : (spec_LapsePermits.l0 kj2 a1 y178 0 0) = some (r1, r2, r3) := by first | (rw [hy178]; with_reducible exact H) | (have H2_ := (Option.bind_some _ _).symm.trans H; rw [hy178]; with_reducible exact H2_) | (have H2_ := (Option.bind_some _ _).symm.trans H; with_reducible exact H2_) | with_reducible exact H | (rw [hy178]; exact H) | exact H
          have Ny178 := Aside0.mk hy178
          clear hy178
          have H' := Aside0.mk H
          clear H
          go_wp2_with (first | ((with_reducible refine gate_dst (N := 19) rfl ?_); refine Kd.R_lit k26 _ 26 ?hg (N := 19) ?hd (xs := ([] : List (S26))) (inner := []) (ok := fun _ => True) (okp := fun _ => True) ?hr ?hp (fun _ hk => hk) trivial (Below.refl _ _) (Nat.le_refl _) (by simp) ?_; (case hd => rfl); (case hg => rfl); (case hr => first | (go_simp; done) | (go_simp; rfl)); (case hp => exact (Reps.none _ _)); intro v176 w13 ho14 hb hg_ hnew_; clear hg_ hnew_; (first | rw [← Ny175.out] at ho14 | (simp only [Int.reduceToNat] at ho14; rw [← Ny175.out] at ho14)); have n0_ := Aside0.mk (Kd.R_lower ho14 (below_size (upB HB.out))); have n1_ := Aside0.mk (below_step (upB HB.out) hb); clear HB; have HO177 := n0_; have HB := n1_; clear n0_ n1_; clear hb ho14) | ((with_reducible refine gate_builtin (b := .append) (xs := #[.tmp 19, .tmp 20]) rfl ?_); at_builtin; refine Kd.R_append_rows k26 (w0 := w) w.heap.size rfl (.tmp 19) (.tmp 20) 32 26 (.agg #[(.int .i64 0), (.string ⟨#[]⟩), (.int .i64 0), (.int .i64 0), (.int .i64 0), (.int .i64 0)]) 56 rfl Tryd.underlying32 info26 rfl (by decide) (by omega) v176 y175 l0 _ _ _ (fun _ => True) (fun _ => False) rfl rfl ?aO ?aR (fun _ _ h => h) (fun _ h => h.elim) ?aF ?aB ?aS ?aL ?_; (case aR => repeat (first | exact (Kd.C_below HR0.out HB.out) | (with_reducible refine Kd.C_alloc ?_ _) | (with_reducible refine Kd.C_drewN ?_ _) | (with_reducible refine Kd.C_drew ?_))); (case aB => exact (upB HB.out)); (case aF => exact (fun _ _ => trivial)); (case aO => exact (upR HO177.out)); (case aS => exact (below_size (upB HB.out))); (case aL => have := LMc12.out; omega); intro v179 w15 ho hb hg hat; rw [← Ny178.out] at ho; have n0_ := Aside0.mk (hb); have n1_ := Aside0.mk (ho); clear HB; clear HO177; have HB := n0_; have HO180 := n1_; clear n0_ n1_; clear ho hb hg hat))
          go_loopg [7, 8, 9] kj2 (fun kq v7 v8 v9 w' => ∃ (x7_2 : List (S26)) (x8_2 : Int) (x9_2 : Int), v8 = .int .i64 x8_2 ∧ v9 = .int .i64 x9_2 ∧ Aside0 (spec_LapsePermits.l0 kq a1 x7_2 x8_2 x9_2 = some (r1, r2, r3)) ∧ Aside0 (kq ≤ kj2) ∧ Aside0 (Kd.R k26 26 w' w.heap.size (fun _ => True) v7 x7_2) ∧ Aside0 (Below w.heap.size w w'))
          case atStart => exact ⟨(y178), (0), (0), (by first | rfl | (simp; done) | (simp [*]; done)), (by first | rfl | (simp; done) | (simp [*]; done)), H', ⟨Nat.le_refl _⟩, ⟨by (with_reducible repeat (first | apply Kd.R_alloc | apply Kd.R_drewN | apply Kd.R_drew)); exact HO180.out⟩, ⟨(upB HB.out)⟩⟩
          case round =>
            clear H'
            try clear c5
            try clear c9
            try clear c12
            obtain ⟨x7_2, x8_2, x9_2, rfl, rfl, HA, HK2, HO_7, HB⟩ := hrel
            cases gk with
            | zero => exact absurd HA.out (by simp [spec_LapsePermits.l0])
            | succ k2 =>
              have H := HA.out
              clear HA
              simp only [spec_LapsePermits.l0] at H
              by_cases c16 : x9_2 < (x7_2.length : Int)
              · rw [if_pos c16] at H
                have c16b0 : decide (x9_2 < (x7_2.length : Int)) = true := decide_eq_true c16
                clear c16
                by_cases c17 : 0 ≤ x9_2
                · rw [if_pos c17] at H
                  have c17b0 : decide (0 ≤ x9_2) = true := decide_eq_true c17
                  clear c17
                  replace H := Option.bind_eq_some_iff.mp H
                  obtain ⟨t182, A180, H⟩ := H
                  replace H : (if t182 = true then (if ((rd_T26 x7_2 x9_2).f3) < a1 then ((spec_l22With.f x7_2 x9_2 4).bind fun t184 => (spec_LapsePermits.l0 k2 a1 t184 (wrap64 (x8_2 + 1)) (wrap64 (x9_2 + 1)))) else (spec_LapsePermits.l0 k2 a1 x7_2 x8_2 (wrap64 (x9_2 + 1)))) else (spec_LapsePermits.l0 k2 a1 x7_2 x8_2 (wrap64 (x9_2 + 1)))) = some (r1, r2, r3) := H
                  have A18 := Aside0.mk A180
                  clear A180
                  by_cases c19 : t182 = true
                  · subst c19
                    have H1 : (if ((rd_T26 x7_2 x9_2).f3) < a1 then ((spec_l22With.f x7_2 x9_2 4).bind fun t184 => (spec_LapsePermits.l0 k2 a1 t184 (wrap64 (x8_2 + 1)) (wrap64 (x9_2 + 1)))) else (spec_LapsePermits.l0 k2 a1 x7_2 x8_2 (wrap64 (x9_2 + 1)))) = some (r1, r2, r3) := by rw [if_pos rfl] at H; exact H
                    clear H
                    have H := H1
                    clear H1
                    by_cases c20 : ((rd_T26 x7_2 x9_2).f3) < a1
                    · rw [if_pos c20] at H
                      have c20b0 : decide (((rd_T26 x7_2 x9_2).f3) < a1) = true := decide_eq_true c20
                      clear c20
                      replace H := Option.bind_eq_some_iff.mp H
                      obtain ⟨t184, A210, H⟩ := H
                      replace H : (spec_LapsePermits.l0 k2 a1 t184 (wrap64 (x8_2 + 1)) (wrap64 (x9_2 + 1))) = some (r1, r2, r3) := H
                      have A21 := Aside0.mk A210
                      clear A210
                      have H' := Aside0.mk H
                      clear H
                      obtain ⟨Ao22, co22, eo22⟩ := Kd.R_slice HO_7.out
                      subst eo22
                      have p181 : 0 ≤ (x9_2 : Int) := of_decide_eq_true asmB
                      have q181 : x9_2 < (x7_2.length : Int) := of_decide_eq_true asmB
                      obtain ⟨ad181, e181, hx181_0, hx181_1, hx181_2, hx181_3, hx181_4, hx181_5⟩ := at_T26 (Kd.R_reads' HO_7.out).2.2 x9_2 p181 q181
                      cases e181
                      replace p181 := eq_true p181
                      replace q181 := eq_true q181
                      go_wp2_with (first | ((with_reducible refine gate_callee (f := 70) rfl ?_); refine goesL_ (some 32) rfl rfl Tryd.func70 (by kernel_rfl) rfl #[.agg #[.int .i64 ((rd_T26 x7_2 x9_2).f0), .string ((rd_T26 x7_2 x9_2).f1), .int .i64 ((rd_T26 x7_2 x9_2).f2), .int .i64 ((rd_T26 x7_2 x9_2).f3), .int .i64 ((rd_T26 x7_2 x9_2).f4), .int .i64 ((rd_T26 x7_2 x9_2).f5)]] rfl argsB ?_; (with_reducible refine (spec_l22Holds.calls ((rd_T26 x7_2 x9_2).f0) ((rd_T26 x7_2 x9_2).f1) ((rd_T26 x7_2 x9_2).f2) ((rd_T26 x7_2 x9_2).f3) ((rd_T26 x7_2 x9_2).f4) ((rd_T26 x7_2 x9_2).f5) true _ A18.out).mono ?_); rintro e w23 ⟨rfl, hb⟩; refine ⟨_, rfl, ?_⟩; have n0_ := Aside0.mk (Kd.R_below (upR HO_7.out) hb); have n1_ := Aside0.mk (below_step (upB HB.out) hb); clear HO_7; clear HB; have HO_7 := n0_; have HB := n1_; clear n0_ n1_; (try clear hb); (try clear hk); have p183 : 0 ≤ (x9_2 : Int) := of_decide_eq_true asmB; have q183 : x9_2 < (x7_2.length : Int) := of_decide_eq_true asmB; obtain ⟨ad183, e183, hx183_0, hx183_1, hx183_2, hx183_3, hx183_4, hx183_5⟩ := at_T26 (Kd.R_reads' HO_7.out).2.2 x9_2 p183 q183; obtain rfl : ad181 = ad183 := (by injection e183); replace p183 := eq_true p183; replace q183 := eq_true q183) | ((with_reducible refine gate_callee (f := 71) rfl ?_); refine goesL_ (some 44) rfl rfl Tryd.func71 (by kernel_rfl) rfl #[.slice (some ad181) x7_2.length co22, .int .i64 x9_2, .int .i64 4] rfl argsB ?_; (with_reducible refine (spec_l22With.calls _ _ x7_2 x9_2 4 t184 _ ?side1 ?side2 A21.out).mono ?_); (case side1 => repeat (first | exact (Kd.R_reads' HO_7.out).2.2 | (with_reducible refine Kd.C_alloc ?_ _) | (with_reducible refine Kd.C_drewN ?_ _) | (with_reducible refine Kd.C_drew ?_))); (case side2 => exact (Kd.R_reads' HO_7.out).2.1); rintro e w24 ⟨v185, rfl, ho0, hb⟩; refine ⟨_, rfl, ?_⟩; have n0_ := Aside0.mk (Kd.R_elder' (upR HO_7.out) (Kd.R_base ho0) hb); have n1_ := Aside0.mk (Kd.R_lower (Kd.R_new' ho0 (Kd.R_lt (upR HO_7.out))) (below_size (upB HB.out))); have n2_ := Aside0.mk (below_step (upB HB.out) hb); clear HO_7; clear HB; have HO_7 := n0_; have HO186 := n1_; have HB := n2_; clear n0_ n1_ n2_; (try clear hb); (try clear hk); (try clear ho0)))
                      go_roundg k2
                      case measure => have := HJ2.out; have := HK2.out; omega
                      case rel => exact ⟨(t184), (wrap64 (x8_2 + 1)), (wrap64 (x9_2 + 1)), (by first | rfl | (simp; done) | (simp [*]; done)), (by first | rfl | (simp; done) | (simp [*]; done)), H', ⟨by have := HJ2.out; have := HK2.out; omega⟩, ⟨by (with_reducible repeat (first | apply Kd.R_alloc | apply Kd.R_drewN | apply Kd.R_drew)); exact Kd.R_mono HO186.out (fun _ hk => trivial)⟩, ⟨(upB HB.out)⟩⟩
                    · rw [if_neg c20] at H
                      have c20b0 : decide (((rd_T26 x7_2 x9_2).f3) < a1) = false := decide_eq_false c20
                      clear c20
                      have H' := Aside0.mk H
                      clear H
                      obtain ⟨Ao25, co25, eo25⟩ := Kd.R_slice HO_7.out
                      subst eo25
                      have p181 : 0 ≤ (x9_2 : Int) := of_decide_eq_true asmB
                      have q181 : x9_2 < (x7_2.length : Int) := of_decide_eq_true asmB
                      obtain ⟨ad181, e181, hx181_0, hx181_1, hx181_2, hx181_3, hx181_4, hx181_5⟩ := at_T26 (Kd.R_reads' HO_7.out).2.2 x9_2 p181 q181
                      cases e181
                      replace p181 := eq_true p181
                      replace q181 := eq_true q181
                      go_wp2_with (first | ((with_reducible refine gate_callee (f := 70) rfl ?_); refine goesL_ (some 32) rfl rfl Tryd.func70 (by kernel_rfl) rfl #[.agg #[.int .i64 ((rd_T26 x7_2 x9_2).f0), .string ((rd_T26 x7_2 x9_2).f1), .int .i64 ((rd_T26 x7_2 x9_2).f2), .int .i64 ((rd_T26 x7_2 x9_2).f3), .int .i64 ((rd_T26 x7_2 x9_2).f4), .int .i64 ((rd_T26 x7_2 x9_2).f5)]] rfl argsB ?_; (with_reducible refine (spec_l22Holds.calls ((rd_T26 x7_2 x9_2).f0) ((rd_T26 x7_2 x9_2).f1) ((rd_T26 x7_2 x9_2).f2) ((rd_T26 x7_2 x9_2).f3) ((rd_T26 x7_2 x9_2).f4) ((rd_T26 x7_2 x9_2).f5) true _ A18.out).mono ?_); rintro e w26 ⟨rfl, hb⟩; refine ⟨_, rfl, ?_⟩; have n0_ := Aside0.mk (Kd.R_below (upR HO_7.out) hb); have n1_ := Aside0.mk (below_step (upB HB.out) hb); clear HO_7; clear HB; have HO_7 := n0_; have HB := n1_; clear n0_ n1_; (try clear hb); (try clear hk); have p183 : 0 ≤ (x9_2 : Int) := of_decide_eq_true asmB; have q183 : x9_2 < (x7_2.length : Int) := of_decide_eq_true asmB; obtain ⟨ad183, e183, hx183_0, hx183_1, hx183_2, hx183_3, hx183_4, hx183_5⟩ := at_T26 (Kd.R_reads' HO_7.out).2.2 x9_2 p183 q183; obtain rfl : ad181 = ad183 := (by injection e183); replace p183 := eq_true p183; replace q183 := eq_true q183))
                      go_roundg k2
                      case measure => have := HJ2.out; have := HK2.out; omega
                      case rel => exact ⟨(x7_2), (x8_2), (wrap64 (x9_2 + 1)), (by first | rfl | (simp; done) | (simp [*]; done)), (by first | rfl | (simp; done) | (simp [*]; done)), H', ⟨by have := HJ2.out; have := HK2.out; omega⟩, ⟨by (with_reducible repeat (first | apply Kd.R_alloc | apply Kd.R_drewN | apply Kd.R_drew)); exact HO_7.out⟩, ⟨(upB HB.out)⟩⟩
                  · replace c19 := Bool.eq_false_iff.mpr c19
                    subst c19
                    have H1 : (spec_LapsePermits.l0 k2 a1 x7_2 x8_2 (wrap64 (x9_2 + 1))) = some (r1, r2, r3) := by rw [if_neg (show ¬ (false = true) by decide)] at H; exact H
                    clear H
                    have H := H1
                    clear H1
                    have H' := Aside0.mk H
                    clear H
                    obtain ⟨Ao27, co27, eo27⟩ := Kd.R_slice HO_7.out
                    subst eo27
                    have p181 : 0 ≤ (x9_2 : Int) := of_decide_eq_true asmB
                    have q181 : x9_2 < (x7_2.length : Int) := of_decide_eq_true asmB
                    obtain ⟨ad181, e181, hx181_0, hx181_1, hx181_2, hx181_3, hx181_4, hx181_5⟩ := at_T26 (Kd.R_reads' HO_7.out).2.2 x9_2 p181 q181
                    cases e181
                    replace p181 := eq_true p181
                    replace q181 := eq_true q181
                    go_wp2_with (first | ((with_reducible refine gate_callee (f := 70) rfl ?_); refine goesL_ (some 32) rfl rfl Tryd.func70 (by kernel_rfl) rfl #[.agg #[.int .i64 ((rd_T26 x7_2 x9_2).f0), .string ((rd_T26 x7_2 x9_2).f1), .int .i64 ((rd_T26 x7_2 x9_2).f2), .int .i64 ((rd_T26 x7_2 x9_2).f3), .int .i64 ((rd_T26 x7_2 x9_2).f4), .int .i64 ((rd_T26 x7_2 x9_2).f5)]] rfl argsB ?_; (with_reducible refine (spec_l22Holds.calls ((rd_T26 x7_2 x9_2).f0) ((rd_T26 x7_2 x9_2).f1) ((rd_T26 x7_2 x9_2).f2) ((rd_T26 x7_2 x9_2).f3) ((rd_T26 x7_2 x9_2).f4) ((rd_T26 x7_2 x9_2).f5) false _ A18.out).mono ?_); rintro e w28 ⟨rfl, hb⟩; refine ⟨_, rfl, ?_⟩; have n0_ := Aside0.mk (Kd.R_below (upR HO_7.out) hb); have n1_ := Aside0.mk (below_step (upB HB.out) hb); clear HO_7; clear HB; have HO_7 := n0_; have HB := n1_; clear n0_ n1_; (try clear hb); (try clear hk)))
                    go_roundg k2
                    case measure => have := HJ2.out; have := HK2.out; omega
                    case rel => exact ⟨(x7_2), (x8_2), (wrap64 (x9_2 + 1)), (by first | rfl | (simp; done) | (simp [*]; done)), (by first | rfl | (simp; done) | (simp [*]; done)), H', ⟨by have := HJ2.out; have := HK2.out; omega⟩, ⟨by (with_reducible repeat (first | apply Kd.R_alloc | apply Kd.R_drewN | apply Kd.R_drew)); exact HO_7.out⟩, ⟨(upB HB.out)⟩⟩
                · rw [if_neg c17] at H
                  exact absurd H (by simp)
              · rw [if_neg c16] at H
                have c16b0 : decide (x9_2 < (x7_2.length : Int)) = false := decide_eq_false c16
                clear c16
                simp only [Option.some.injEq, Prod.mk.injEq] at H
                obtain ⟨rfl, rfl, rfl⟩ := H
                obtain ⟨Ao29, co29, eo29⟩ := Kd.R_slice HO_7.out
                subst eo29
                go_wp2
                go_ret3
                exact ⟨_, by first | rfl | (simp [errW_none, errW_some] <;> rfl) | (simp [*, errW_none, errW_some] <;> rfl), by (with_reducible repeat (first | apply Kd.R_alloc | apply Kd.R_drewN | apply Kd.R_drew)); exact HO_7.out, (upB HB.out)⟩
        · rw [if_neg c12] at H
          exact absurd H (by simp)

/-! ### impl_within: function 57 -/
def impl_within.f (a0 : Int) (a1 : Int) (a2 : Int) : Option (Bool) := if a0 ≥ a1 then (some (decide (a0 ≤ a2))) else (some false)
set_option maxHeartbeats 8000000 in
set_option maxRecDepth 100000 in
theorem impl_within.calls (a0 : Int) (a1 : Int) (a2 : Int) (r : Bool) (w : World) (h : impl_within.f a0 a1 a2 = some r) :
    Calls Tryd.prog 57 #[.int .i64 a0, .int .i64 a1, .int .i64 a2] w fun e w' => e = .returned (.bool r) ∧ Drawn0 w w' := by
  have H : (if a0 ≥ a1 then (some (decide (a0 ≤ a2))) else (some false)) = some r := h
  clear h
  by_cases c4 : a0 ≥ a1
  · rw [if_pos c4] at H
    have c4b0 : decide (a1 ≤ a0) = true := decide_eq_true c4
    clear c4
    obtain rfl := Option.some.inj H
    go_enter Tryd.func57, Tryd.ntmps57
    go_wp2
    go_ret
    exact ⟨by first | rfl | (simp; done) | (simp [*]; done), by repeat (first | exact Drawn0.refl _ | apply Drawn0.step)⟩
  · rw [if_neg c4] at H
    have c4b0 : decide (a1 ≤ a0) = false := decide_eq_false c4
    clear c4
    obtain rfl := Option.some.inj H
    go_enter Tryd.func57, Tryd.ntmps57
    go_wp2
    go_ret
    exact ⟨by first | rfl | (simp; done) | (simp [*]; done), by repeat (first | exact Drawn0.refl _ | apply Drawn0.step)⟩

/-! ### impl_isId: function 54 -/
def impl_isId.f (a0 : Int) : Option (Bool) := (impl_within.f a0 1 99).bind fun t187 => (some t187)
set_option maxHeartbeats 8000000 in
set_option maxRecDepth 100000 in
theorem impl_isId.calls (a0 : Int) (r : Bool) (w : World) (h : impl_isId.f a0 = some r) :
    Calls Tryd.prog 54 #[.int .i64 a0] w fun e w' => e = .returned (.bool r) ∧ Drawn0 w w' := by
  have H : ((impl_within.f a0 1 99).bind fun t187 => (some t187)) = some r := h
  clear h
  replace H := Option.bind_eq_some_iff.mp H
  obtain ⟨t187, A20, H⟩ := H
  replace H : (some t187) = some r := H
  have A2 := Aside0.mk A20
  clear A20
  obtain rfl := Option.some.inj H
  go_enter Tryd.func54, Tryd.ntmps54
  go_wp2_with (first | ((with_reducible refine gate_callee (f := 57) rfl ?_); refine goesL_ (some 4) rfl rfl Tryd.func57 (by kernel_rfl) rfl #[.int .i64 a0, .int .i64 1, .int .i64 99] rfl argsB ?_; (with_reducible refine (impl_within.calls a0 1 99 t187 _ A2.out).mono ?_); rintro e w' ⟨rfl, ⟨nd, rfl⟩⟩; refine ⟨_, rfl, ?_⟩))
  go_ret
  exact ⟨by first | rfl | (simp; done) | (simp [*]; done), by repeat (first | exact Drawn0.refl _ | apply Drawn0.step)⟩

/-! ### impl_isWord: function 55 -/
-- calls: none
def lower : List UInt8 := [97, 98, 99, 100, 101, 102, 103, 104, 105, 106, 107, 108, 109, 110, 111, 112, 113, 114, 115, 116, 117, 118, 119, 120, 121, 122]
theorem lower_mem (b : UInt8) : lower.contains b = decide (97 ≤ b.toNat ∧ b.toNat ≤ 122) := by
  have : ∀ n : Fin 256, lower.contains (UInt8.ofNat n.val) = decide (97 ≤ (UInt8.ofNat n.val).toNat ∧ (UInt8.ofNat n.val).toNat ≤ 122) := by decide +kernel
  have h := this ⟨b.toNat, b.toNat_lt⟩
  rwa [show UInt8.ofNat (Fin.mk b.toNat b.toNat_lt).val = b from UInt8.ofNat_toNat] at h
theorem dropWhile_nil {α : Type} (p : α → Bool) : ∀ l : List α, l.dropWhile p = [] ↔ ∀ x ∈ l, p x = true
  | [] => by simp
  | x :: l => by
    rw [List.dropWhile_cons]
    by_cases h : p x = true
    · rw [if_pos h, dropWhile_nil p l]
      simp [h]
    · rw [if_neg h]
      simp [h]
theorem trim_nil (l : List UInt8) : (Lib.trimS l lower).isEmpty = l.all (fun b => decide (97 ≤ b.toNat ∧ b.toNat ≤ 122)) := by
  have e : (fun b => lower.contains b) = (fun b : UInt8 => decide (97 ≤ b.toNat ∧ b.toNat ≤ 122)) := funext lower_mem
  unfold Lib.trimS Lib.trimLeftS Lib.trimRightS
  rw [e]
  generalize (fun b : UInt8 => decide (97 ≤ b.toNat ∧ b.toNat ≤ 122)) = p
  by_cases h : l.all p = true
  · rw [h]
    have h1 : l.reverse.dropWhile p = [] := by
      rw [dropWhile_nil]; intro x hx; exact List.all_eq_true.1 h x (List.mem_reverse.1 hx)
    rw [h1]; rfl
  · rw [Bool.eq_false_iff.2 h]
    rw [List.isEmpty_eq_false_iff]
    intro hn
    apply h
    rw [dropWhile_nil] at hn
    rw [List.all_eq_true]
    intro x hx
    by_cases hp : p x = true
    · exact hp
    · exfalso
      have hd : ∀ m : List UInt8, x ∈ m → x ∈ m.dropWhile p := by
        intro m
        induction m with
        | nil => intro h; cases h
        | cons y m ih =>
          intro hm
          rw [List.dropWhile_cons]
          split
          · rename_i hy
            rcases List.mem_cons.1 hm with rfl | hm
            · exact absurd hy hp
            · exact ih hm
          · exact hm
      exact hp (hn x (List.mem_reverse.2 (hd _ (List.mem_reverse.2 hx))))
def impl_isWord.f (a0 : ByteArray) : Option Bool := some (decide (1 ≤ a0.size) && (decide (a0.size ≤ 10) && a0.data.toList.all (fun b => decide (97 ≤ b.toNat ∧ b.toNat ≤ 122))))
set_option maxHeartbeats 8000000 in
set_option maxRecDepth 100000 in
theorem impl_isWord.calls (a0 : ByteArray) (r : Bool) (w : World) (h : impl_isWord.f a0 = some r) :
    Calls Tryd.prog 55 #[.string a0] w fun e w' => e = .returned (.bool r) ∧ Below w.heap.size w w' := by
  obtain rfl := Option.some.inj h
  by_cases c1 : 1 ≤ a0.size
  · by_cases c2 : a0.size ≤ 10
    · have hcon := Any.strings_Trim_laid Tryd.lays160 (by kernel_rfl) a0 ⟨lower.toArray⟩ w (by omega) (by decide) (ascii_of_all (by decide))
      change Calls Tryd.prog 90 _ _ (fun e w' => e = .returned (.string ⟨(Lib.trimS a0.data.toList lower).toArray⟩) ∧ Below w.heap.size w w') at hcon
      have ht := trim_nil a0.data.toList
      rw [decide_eq_true c1, decide_eq_true c2, Bool.true_and, Bool.true_and]
      rw [← ht]
      clear ht
      generalize Lib.trimS a0.data.toList lower = t at hcon ⊢
      go_enter Tryd.func55, Tryd.ntmps55
      go_wp2_with (go_at_call 90; refine hcon.mono ?_; rintro e w' ⟨rfl, hB⟩)
      go_ret
      exact ⟨rfl, hB⟩
    · rw [decide_eq_true c1, decide_eq_false c2]
      go_enter Tryd.func55, Tryd.ntmps55
      go_wp2
      go_ret
      exact ⟨by simp, Below.refl _ _⟩
  · rw [decide_eq_false c1]
    go_enter Tryd.func55, Tryd.ntmps55
    go_wp2
    go_ret
    exact ⟨by simp, Below.refl _ _⟩

/-! ### impl_isDay: function 56 -/
def impl_isDay.f (a0 : Int) : Option (Bool) := (impl_within.f a0 0 999).bind fun t188 => (some t188)
set_option maxHeartbeats 8000000 in
set_option maxRecDepth 100000 in
theorem impl_isDay.calls (a0 : Int) (r : Bool) (w : World) (h : impl_isDay.f a0 = some r) :
    Calls Tryd.prog 56 #[.int .i64 a0] w fun e w' => e = .returned (.bool r) ∧ Drawn0 w w' := by
  have H : ((impl_within.f a0 0 999).bind fun t188 => (some t188)) = some r := h
  clear h
  replace H := Option.bind_eq_some_iff.mp H
  obtain ⟨t188, A20, H⟩ := H
  replace H : (some t188) = some r := H
  have A2 := Aside0.mk A20
  clear A20
  obtain rfl := Option.some.inj H
  go_enter Tryd.func56, Tryd.ntmps56
  go_wp2_with (first | ((with_reducible refine gate_callee (f := 57) rfl ?_); refine goesL_ (some 4) rfl rfl Tryd.func57 (by kernel_rfl) rfl #[.int .i64 a0, .int .i64 0, .int .i64 999] rfl argsB ?_; (with_reducible refine (impl_within.calls a0 0 999 t188 _ A2.out).mono ?_); rintro e w' ⟨rfl, ⟨nd, rfl⟩⟩; refine ⟨_, rfl, ?_⟩))
  go_ret
  exact ⟨by first | rfl | (simp; done) | (simp [*]; done), by repeat (first | exact Drawn0.refl _ | apply Drawn0.step)⟩

/-! ### impl_IsPermit: function 17 -/
def impl_IsPermit.f (a0_0 : Int) (a0_1 : ByteArray) (a0_2 : Int) (a0_3 : Int) (a0_4 : Int) (a0_5 : Int) : Option (Bool) := (impl_isId.f a0_0).bind fun t190 => (if t190 = true then ((impl_isWord.f a0_1).bind fun t191 => (if t191 = true then ((impl_isDay.f a0_2).bind fun t192 => (if t192 = true then ((impl_within.f a0_3 a0_2 999).bind fun t193 => (if t193 = true then ((impl_within.f a0_4 1 12).bind fun t194 => (if t194 = true then ((impl_within.f a0_5 0 4).bind fun t195 => (some t195)) else (some false))) else (some false))) else (some false))) else (some false))) else (some false))
set_option maxHeartbeats 8000000 in
set_option maxRecDepth 100000 in
theorem impl_IsPermit.calls (a0_0 : Int) (a0_1 : ByteArray) (a0_2 : Int) (a0_3 : Int) (a0_4 : Int) (a0_5 : Int) (r : Bool) (w : World) (h : impl_IsPermit.f a0_0 a0_1 a0_2 a0_3 a0_4 a0_5 = some r) :
    Calls Tryd.prog 17 #[.agg #[.int .i64 a0_0, .string a0_1, .int .i64 a0_2, .int .i64 a0_3, .int .i64 a0_4, .int .i64 a0_5]] w fun e w' => e = .returned (.bool r) ∧ Below w.heap.size w w' := by
  have hu26 := Tryd.underlying26
  have HB := Aside0.mk (Below.refl w.heap.size w)
  have H : ((impl_isId.f a0_0).bind fun t190 => (if t190 = true then ((impl_isWord.f a0_1).bind fun t191 => (if t191 = true then ((impl_isDay.f a0_2).bind fun t192 => (if t192 = true then ((impl_within.f a0_3 a0_2 999).bind fun t193 => (if t193 = true then ((impl_within.f a0_4 1 12).bind fun t194 => (if t194 = true then ((impl_within.f a0_5 0 4).bind fun t195 => (some t195)) else (some false))) else (some false))) else (some false))) else (some false))) else (some false))) = some r := h
  clear h
  replace H := Option.bind_eq_some_iff.mp H
  obtain ⟨t190, A20, H⟩ := H
  replace H : (if t190 = true then ((impl_isWord.f a0_1).bind fun t191 => (if t191 = true then ((impl_isDay.f a0_2).bind fun t192 => (if t192 = true then ((impl_within.f a0_3 a0_2 999).bind fun t193 => (if t193 = true then ((impl_within.f a0_4 1 12).bind fun t194 => (if t194 = true then ((impl_within.f a0_5 0 4).bind fun t195 => (some t195)) else (some false))) else (some false))) else (some false))) else (some false))) else (some false)) = some r := H
  have A2 := Aside0.mk A20
  clear A20
  by_cases c3 : t190 = true
  · subst c3
    have H1 : ((impl_isWord.f a0_1).bind fun t191 => (if t191 = true then ((impl_isDay.f a0_2).bind fun t192 => (if t192 = true then ((impl_within.f a0_3 a0_2 999).bind fun t193 => (if t193 = true then ((impl_within.f a0_4 1 12).bind fun t194 => (if t194 = true then ((impl_within.f a0_5 0 4).bind fun t195 => (some t195)) else (some false))) else (some false))) else (some false))) else (some false))) = some r := by rw [if_pos rfl] at H; exact H
    clear H
    have H := H1
    clear H1
    replace H := Option.bind_eq_some_iff.mp H
    obtain ⟨t191, A40, H⟩ := H
    replace H : (if t191 = true then ((impl_isDay.f a0_2).bind fun t192 => (if t192 = true then ((impl_within.f a0_3 a0_2 999).bind fun t193 => (if t193 = true then ((impl_within.f a0_4 1 12).bind fun t194 => (if t194 = true then ((impl_within.f a0_5 0 4).bind fun t195 => (some t195)) else (some false))) else (some false))) else (some false))) else (some false)) = some r := H
    have A4 := Aside0.mk A40
    clear A40
    by_cases c5 : t191 = true
    · subst c5
      have H1 : ((impl_isDay.f a0_2).bind fun t192 => (if t192 = true then ((impl_within.f a0_3 a0_2 999).bind fun t193 => (if t193 = true then ((impl_within.f a0_4 1 12).bind fun t194 => (if t194 = true then ((impl_within.f a0_5 0 4).bind fun t195 => (some t195)) else (some false))) else (some false))) else (some false))) = some r := by rw [if_pos rfl] at H; exact H
      clear H
      have H := H1
      clear H1
      replace H := Option.bind_eq_some_iff.mp H
      obtain ⟨t192, A60, H⟩ := H
      replace H : (if t192 = true then ((impl_within.f a0_3 a0_2 999).bind fun t193 => (if t193 = true then ((impl_within.f a0_4 1 12).bind fun t194 => (if t194 = true then ((impl_within.f a0_5 0 4).bind fun t195 => (some t195)) else (some false))) else (some false))) else (some false)) = some r := H
      have A6 := Aside0.mk A60
      clear A60
      by_cases c7 : t192 = true
      · subst c7
        have H1 : ((impl_within.f a0_3 a0_2 999).bind fun t193 => (if t193 = true then ((impl_within.f a0_4 1 12).bind fun t194 => (if t194 = true then ((impl_within.f a0_5 0 4).bind fun t195 => (some t195)) else (some false))) else (some false))) = some r := by rw [if_pos rfl] at H; exact H
        clear H
        have H := H1
        clear H1
        replace H := Option.bind_eq_some_iff.mp H
        obtain ⟨t193, A80, H⟩ := H
        replace H : (if t193 = true then ((impl_within.f a0_4 1 12).bind fun t194 => (if t194 = true then ((impl_within.f a0_5 0 4).bind fun t195 => (some t195)) else (some false))) else (some false)) = some r := H
        have A8 := Aside0.mk A80
        clear A80
        by_cases c9 : t193 = true
        · subst c9
          have H1 : ((impl_within.f a0_4 1 12).bind fun t194 => (if t194 = true then ((impl_within.f a0_5 0 4).bind fun t195 => (some t195)) else (some false))) = some r := by rw [if_pos rfl] at H; exact H
          clear H
          have H := H1
          clear H1
          replace H := Option.bind_eq_some_iff.mp H
          obtain ⟨t194, A100, H⟩ := H
          replace H : (if t194 = true then ((impl_within.f a0_5 0 4).bind fun t195 => (some t195)) else (some false)) = some r := H
          have A10 := Aside0.mk A100
          clear A100
          by_cases c11 : t194 = true
          · subst c11
            have H1 : ((impl_within.f a0_5 0 4).bind fun t195 => (some t195)) = some r := by rw [if_pos rfl] at H; exact H
            clear H
            have H := H1
            clear H1
            replace H := Option.bind_eq_some_iff.mp H
            obtain ⟨t195, A120, H⟩ := H
            replace H : (some t195) = some r := H
            have A12 := Aside0.mk A120
            clear A120
            obtain rfl := Option.some.inj H
            go_enter Tryd.func17, Tryd.ntmps17
            go_wp2_with (first | ((with_reducible refine gate_dst (N := 1) rfl ?_); refine box_event ?hg (N := 1) ?hd (cs := #[.int .i64 a0_0, .string a0_1, .int .i64 a0_2, .int .i64 a0_3, .int .i64 a0_4, .int .i64 a0_5]) (t := 26) ?hr ?_; (case hd => rfl); (case hg => rfl); (case hr => first | (go_simp; done) | (go_simp; rfl)); intro gb189 hg w13 hbox hb; have n0_ := Aside0.mk (below_step (upB HB.out) hb); have n1_ := Aside0.mk (hbox); have n2_ := Aside0.mk ((by rw [hg]; exact (below_size (upB HB.out)) : w.heap.size ≤ gb189)); have n3_ := Aside0.mk ((by rw [hg]; exact (below_size (upB HB.out)) : w.heap.size ≤ gb189)); clear HB; have HB := n0_; have BK189 := n1_; have GW189 := n2_; have GE189 := n3_; clear n0_ n1_ n2_ n3_; clear hb hbox hg; have hcz14_0 := ci BK189.out 0 a0_0 rfl; have hcz14_1 : w13.cell? ⟨gb189, 1, none⟩ = some (.string a0_1) := (blk_cell BK189.out 1).trans rfl; have hcz14_2 := ci BK189.out 2 a0_2 rfl; have hcz14_3 := ci BK189.out 3 a0_3 rfl; have hcz14_4 := ci BK189.out 4 a0_4 rfl; have hcz14_5 := ci BK189.out 5 a0_5 rfl; have hfz14_0 := fun j_ : Nat => blk_frozen BK189.out j_) | ((with_reducible refine gate_callee (f := 54) rfl ?_); refine goesL_ (some 5) rfl rfl Tryd.func54 (by kernel_rfl) rfl #[.int .i64 a0_0] rfl argsB ?_; (with_reducible refine (impl_isId.calls a0_0 true _ A2.out).mono ?_); rintro e w' ⟨rfl, ⟨nd, rfl⟩⟩; refine ⟨_, rfl, ?_⟩) | (go_at_call 55; (with_reducible refine (impl_isWord.calls a0_1 true _ A4.out).mono ?_); rintro e w15 ⟨rfl, hb⟩; have n0_ := Aside0.mk (blk_below (g := gb189) (o := .cells #[.int .i64 a0_0, .string a0_1, .int .i64 a0_2, .int .i64 a0_3, .int .i64 a0_4, .int .i64 a0_5] 26 (0, 0)) (upK BK189.out) hb); have n1_ := Aside0.mk (below_step (upB1 HB.out GE189.out) hb); clear BK189; clear HB; have BK189 := n0_; have HB := n1_; clear n0_ n1_; (try clear hb); have hcz16_0 := ci BK189.out 0 a0_0 rfl; have hcz16_1 : w15.cell? ⟨gb189, 1, none⟩ = some (.string a0_1) := (blk_cell BK189.out 1).trans rfl; have hcz16_2 := ci BK189.out 2 a0_2 rfl; have hcz16_3 := ci BK189.out 3 a0_3 rfl; have hcz16_4 := ci BK189.out 4 a0_4 rfl; have hcz16_5 := ci BK189.out 5 a0_5 rfl; have hfz16_0 := fun j_ : Nat => blk_frozen BK189.out j_) | (go_at_call 56; (with_reducible refine (impl_isDay.calls a0_2 true _ A6.out).mono ?_); rintro e w' ⟨rfl, ⟨nd, rfl⟩⟩) | (go_at_call 57; (with_reducible refine (impl_within.calls a0_3 a0_2 999 true _ A8.out).mono ?_); rintro e w' ⟨rfl, ⟨nd, rfl⟩⟩) | (go_at_call 57; (with_reducible refine (impl_within.calls a0_4 1 12 true _ A10.out).mono ?_); rintro e w' ⟨rfl, ⟨nd, rfl⟩⟩) | (go_at_call 57; (with_reducible refine (impl_within.calls a0_5 0 4 t195 _ A12.out).mono ?_); rintro e w' ⟨rfl, ⟨nd, rfl⟩⟩))
            go_ret
            exact ⟨by first | rfl | (simp [errW_none, errW_some] <;> rfl) | (simp [*, errW_none, errW_some] <;> rfl), (upB1 HB.out GE189.out)⟩
          · replace c11 := Bool.eq_false_iff.mpr c11
            subst c11
            have H1 : (some false) = some r := by rw [if_neg (show ¬ (false = true) by decide)] at H; exact H
            clear H
            have H := H1
            clear H1
            obtain rfl := Option.some.inj H
            go_enter Tryd.func17, Tryd.ntmps17
            go_wp2_with (first | ((with_reducible refine gate_dst (N := 1) rfl ?_); refine box_event ?hg (N := 1) ?hd (cs := #[.int .i64 a0_0, .string a0_1, .int .i64 a0_2, .int .i64 a0_3, .int .i64 a0_4, .int .i64 a0_5]) (t := 26) ?hr ?_; (case hd => rfl); (case hg => rfl); (case hr => first | (go_simp; done) | (go_simp; rfl)); intro gb189 hg w17 hbox hb; have n0_ := Aside0.mk (below_step (upB HB.out) hb); have n1_ := Aside0.mk (hbox); have n2_ := Aside0.mk ((by rw [hg]; exact (below_size (upB HB.out)) : w.heap.size ≤ gb189)); have n3_ := Aside0.mk ((by rw [hg]; exact (below_size (upB HB.out)) : w.heap.size ≤ gb189)); clear HB; have HB := n0_; have BK189 := n1_; have GW189 := n2_; have GE189 := n3_; clear n0_ n1_ n2_ n3_; clear hb hbox hg; have hcz18_0 := ci BK189.out 0 a0_0 rfl; have hcz18_1 : w17.cell? ⟨gb189, 1, none⟩ = some (.string a0_1) := (blk_cell BK189.out 1).trans rfl; have hcz18_2 := ci BK189.out 2 a0_2 rfl; have hcz18_3 := ci BK189.out 3 a0_3 rfl; have hcz18_4 := ci BK189.out 4 a0_4 rfl; have hcz18_5 := ci BK189.out 5 a0_5 rfl; have hfz18_0 := fun j_ : Nat => blk_frozen BK189.out j_) | ((with_reducible refine gate_callee (f := 54) rfl ?_); refine goesL_ (some 5) rfl rfl Tryd.func54 (by kernel_rfl) rfl #[.int .i64 a0_0] rfl argsB ?_; (with_reducible refine (impl_isId.calls a0_0 true _ A2.out).mono ?_); rintro e w' ⟨rfl, ⟨nd, rfl⟩⟩; refine ⟨_, rfl, ?_⟩) | (go_at_call 55; (with_reducible refine (impl_isWord.calls a0_1 true _ A4.out).mono ?_); rintro e w19 ⟨rfl, hb⟩; have n0_ := Aside0.mk (blk_below (g := gb189) (o := .cells #[.int .i64 a0_0, .string a0_1, .int .i64 a0_2, .int .i64 a0_3, .int .i64 a0_4, .int .i64 a0_5] 26 (0, 0)) (upK BK189.out) hb); have n1_ := Aside0.mk (below_step (upB1 HB.out GE189.out) hb); clear BK189; clear HB; have BK189 := n0_; have HB := n1_; clear n0_ n1_; (try clear hb); have hcz20_0 := ci BK189.out 0 a0_0 rfl; have hcz20_1 : w19.cell? ⟨gb189, 1, none⟩ = some (.string a0_1) := (blk_cell BK189.out 1).trans rfl; have hcz20_2 := ci BK189.out 2 a0_2 rfl; have hcz20_3 := ci BK189.out 3 a0_3 rfl; have hcz20_4 := ci BK189.out 4 a0_4 rfl; have hcz20_5 := ci BK189.out 5 a0_5 rfl; have hfz20_0 := fun j_ : Nat => blk_frozen BK189.out j_) | (go_at_call 56; (with_reducible refine (impl_isDay.calls a0_2 true _ A6.out).mono ?_); rintro e w' ⟨rfl, ⟨nd, rfl⟩⟩) | (go_at_call 57; (with_reducible refine (impl_within.calls a0_3 a0_2 999 true _ A8.out).mono ?_); rintro e w' ⟨rfl, ⟨nd, rfl⟩⟩) | (go_at_call 57; (with_reducible refine (impl_within.calls a0_4 1 12 false _ A10.out).mono ?_); rintro e w' ⟨rfl, ⟨nd, rfl⟩⟩))
            go_ret
            exact ⟨by first | rfl | (simp [errW_none, errW_some] <;> rfl) | (simp [*, errW_none, errW_some] <;> rfl), (upB1 HB.out GE189.out)⟩
        · replace c9 := Bool.eq_false_iff.mpr c9
          subst c9
          have H1 : (some false) = some r := by rw [if_neg (show ¬ (false = true) by decide)] at H; exact H
          clear H
          have H := H1
          clear H1
          obtain rfl := Option.some.inj H
          go_enter Tryd.func17, Tryd.ntmps17
          go_wp2_with (first | ((with_reducible refine gate_dst (N := 1) rfl ?_); refine box_event ?hg (N := 1) ?hd (cs := #[.int .i64 a0_0, .string a0_1, .int .i64 a0_2, .int .i64 a0_3, .int .i64 a0_4, .int .i64 a0_5]) (t := 26) ?hr ?_; (case hd => rfl); (case hg => rfl); (case hr => first | (go_simp; done) | (go_simp; rfl)); intro gb189 hg w21 hbox hb; have n0_ := Aside0.mk (below_step (upB HB.out) hb); have n1_ := Aside0.mk (hbox); have n2_ := Aside0.mk ((by rw [hg]; exact (below_size (upB HB.out)) : w.heap.size ≤ gb189)); have n3_ := Aside0.mk ((by rw [hg]; exact (below_size (upB HB.out)) : w.heap.size ≤ gb189)); clear HB; have HB := n0_; have BK189 := n1_; have GW189 := n2_; have GE189 := n3_; clear n0_ n1_ n2_ n3_; clear hb hbox hg; have hcz22_0 := ci BK189.out 0 a0_0 rfl; have hcz22_1 : w21.cell? ⟨gb189, 1, none⟩ = some (.string a0_1) := (blk_cell BK189.out 1).trans rfl; have hcz22_2 := ci BK189.out 2 a0_2 rfl; have hcz22_3 := ci BK189.out 3 a0_3 rfl; have hcz22_4 := ci BK189.out 4 a0_4 rfl; have hcz22_5 := ci BK189.out 5 a0_5 rfl; have hfz22_0 := fun j_ : Nat => blk_frozen BK189.out j_) | ((with_reducible refine gate_callee (f := 54) rfl ?_); refine goesL_ (some 5) rfl rfl Tryd.func54 (by kernel_rfl) rfl #[.int .i64 a0_0] rfl argsB ?_; (with_reducible refine (impl_isId.calls a0_0 true _ A2.out).mono ?_); rintro e w' ⟨rfl, ⟨nd, rfl⟩⟩; refine ⟨_, rfl, ?_⟩) | (go_at_call 55; (with_reducible refine (impl_isWord.calls a0_1 true _ A4.out).mono ?_); rintro e w23 ⟨rfl, hb⟩; have n0_ := Aside0.mk (blk_below (g := gb189) (o := .cells #[.int .i64 a0_0, .string a0_1, .int .i64 a0_2, .int .i64 a0_3, .int .i64 a0_4, .int .i64 a0_5] 26 (0, 0)) (upK BK189.out) hb); have n1_ := Aside0.mk (below_step (upB1 HB.out GE189.out) hb); clear BK189; clear HB; have BK189 := n0_; have HB := n1_; clear n0_ n1_; (try clear hb); have hcz24_0 := ci BK189.out 0 a0_0 rfl; have hcz24_1 : w23.cell? ⟨gb189, 1, none⟩ = some (.string a0_1) := (blk_cell BK189.out 1).trans rfl; have hcz24_2 := ci BK189.out 2 a0_2 rfl; have hcz24_3 := ci BK189.out 3 a0_3 rfl; have hcz24_4 := ci BK189.out 4 a0_4 rfl; have hcz24_5 := ci BK189.out 5 a0_5 rfl; have hfz24_0 := fun j_ : Nat => blk_frozen BK189.out j_) | (go_at_call 56; (with_reducible refine (impl_isDay.calls a0_2 true _ A6.out).mono ?_); rintro e w' ⟨rfl, ⟨nd, rfl⟩⟩) | (go_at_call 57; (with_reducible refine (impl_within.calls a0_3 a0_2 999 false _ A8.out).mono ?_); rintro e w' ⟨rfl, ⟨nd, rfl⟩⟩))
          go_ret
          exact ⟨by first | rfl | (simp [errW_none, errW_some] <;> rfl) | (simp [*, errW_none, errW_some] <;> rfl), (upB1 HB.out GE189.out)⟩
      · replace c7 := Bool.eq_false_iff.mpr c7
        subst c7
        have H1 : (some false) = some r := by rw [if_neg (show ¬ (false = true) by decide)] at H; exact H
        clear H
        have H := H1
        clear H1
        obtain rfl := Option.some.inj H
        go_enter Tryd.func17, Tryd.ntmps17
        go_wp2_with (first | ((with_reducible refine gate_dst (N := 1) rfl ?_); refine box_event ?hg (N := 1) ?hd (cs := #[.int .i64 a0_0, .string a0_1, .int .i64 a0_2, .int .i64 a0_3, .int .i64 a0_4, .int .i64 a0_5]) (t := 26) ?hr ?_; (case hd => rfl); (case hg => rfl); (case hr => first | (go_simp; done) | (go_simp; rfl)); intro gb189 hg w25 hbox hb; have n0_ := Aside0.mk (below_step (upB HB.out) hb); have n1_ := Aside0.mk (hbox); have n2_ := Aside0.mk ((by rw [hg]; exact (below_size (upB HB.out)) : w.heap.size ≤ gb189)); have n3_ := Aside0.mk ((by rw [hg]; exact (below_size (upB HB.out)) : w.heap.size ≤ gb189)); clear HB; have HB := n0_; have BK189 := n1_; have GW189 := n2_; have GE189 := n3_; clear n0_ n1_ n2_ n3_; clear hb hbox hg; have hcz26_0 := ci BK189.out 0 a0_0 rfl; have hcz26_1 : w25.cell? ⟨gb189, 1, none⟩ = some (.string a0_1) := (blk_cell BK189.out 1).trans rfl; have hcz26_2 := ci BK189.out 2 a0_2 rfl; have hcz26_3 := ci BK189.out 3 a0_3 rfl; have hcz26_4 := ci BK189.out 4 a0_4 rfl; have hcz26_5 := ci BK189.out 5 a0_5 rfl; have hfz26_0 := fun j_ : Nat => blk_frozen BK189.out j_) | ((with_reducible refine gate_callee (f := 54) rfl ?_); refine goesL_ (some 5) rfl rfl Tryd.func54 (by kernel_rfl) rfl #[.int .i64 a0_0] rfl argsB ?_; (with_reducible refine (impl_isId.calls a0_0 true _ A2.out).mono ?_); rintro e w' ⟨rfl, ⟨nd, rfl⟩⟩; refine ⟨_, rfl, ?_⟩) | (go_at_call 55; (with_reducible refine (impl_isWord.calls a0_1 true _ A4.out).mono ?_); rintro e w27 ⟨rfl, hb⟩; have n0_ := Aside0.mk (blk_below (g := gb189) (o := .cells #[.int .i64 a0_0, .string a0_1, .int .i64 a0_2, .int .i64 a0_3, .int .i64 a0_4, .int .i64 a0_5] 26 (0, 0)) (upK BK189.out) hb); have n1_ := Aside0.mk (below_step (upB1 HB.out GE189.out) hb); clear BK189; clear HB; have BK189 := n0_; have HB := n1_; clear n0_ n1_; (try clear hb); have hcz28_0 := ci BK189.out 0 a0_0 rfl; have hcz28_1 : w27.cell? ⟨gb189, 1, none⟩ = some (.string a0_1) := (blk_cell BK189.out 1).trans rfl; have hcz28_2 := ci BK189.out 2 a0_2 rfl; have hcz28_3 := ci BK189.out 3 a0_3 rfl; have hcz28_4 := ci BK189.out 4 a0_4 rfl; have hcz28_5 := ci BK189.out 5 a0_5 rfl; have hfz28_0 := fun j_ : Nat => blk_frozen BK189.out j_) | (go_at_call 56; (with_reducible refine (impl_isDay.calls a0_2 false _ A6.out).mono ?_); rintro e w' ⟨rfl, ⟨nd, rfl⟩⟩))
        go_ret
        exact ⟨by first | rfl | (simp [errW_none, errW_some] <;> rfl) | (simp [*, errW_none, errW_some] <;> rfl), (upB1 HB.out GE189.out)⟩
    · replace c5 := Bool.eq_false_iff.mpr c5
      subst c5
      have H1 : (some false) = some r := by rw [if_neg (show ¬ (false = true) by decide)] at H; exact H
      clear H
      have H := H1
      clear H1
      obtain rfl := Option.some.inj H
      go_enter Tryd.func17, Tryd.ntmps17
      go_wp2_with (first | ((with_reducible refine gate_dst (N := 1) rfl ?_); refine box_event ?hg (N := 1) ?hd (cs := #[.int .i64 a0_0, .string a0_1, .int .i64 a0_2, .int .i64 a0_3, .int .i64 a0_4, .int .i64 a0_5]) (t := 26) ?hr ?_; (case hd => rfl); (case hg => rfl); (case hr => first | (go_simp; done) | (go_simp; rfl)); intro gb189 hg w29 hbox hb; have n0_ := Aside0.mk (below_step (upB HB.out) hb); have n1_ := Aside0.mk (hbox); have n2_ := Aside0.mk ((by rw [hg]; exact (below_size (upB HB.out)) : w.heap.size ≤ gb189)); have n3_ := Aside0.mk ((by rw [hg]; exact (below_size (upB HB.out)) : w.heap.size ≤ gb189)); clear HB; have HB := n0_; have BK189 := n1_; have GW189 := n2_; have GE189 := n3_; clear n0_ n1_ n2_ n3_; clear hb hbox hg; have hcz30_0 := ci BK189.out 0 a0_0 rfl; have hcz30_1 : w29.cell? ⟨gb189, 1, none⟩ = some (.string a0_1) := (blk_cell BK189.out 1).trans rfl; have hcz30_2 := ci BK189.out 2 a0_2 rfl; have hcz30_3 := ci BK189.out 3 a0_3 rfl; have hcz30_4 := ci BK189.out 4 a0_4 rfl; have hcz30_5 := ci BK189.out 5 a0_5 rfl; have hfz30_0 := fun j_ : Nat => blk_frozen BK189.out j_) | ((with_reducible refine gate_callee (f := 54) rfl ?_); refine goesL_ (some 5) rfl rfl Tryd.func54 (by kernel_rfl) rfl #[.int .i64 a0_0] rfl argsB ?_; (with_reducible refine (impl_isId.calls a0_0 true _ A2.out).mono ?_); rintro e w' ⟨rfl, ⟨nd, rfl⟩⟩; refine ⟨_, rfl, ?_⟩) | (go_at_call 55; (with_reducible refine (impl_isWord.calls a0_1 false _ A4.out).mono ?_); rintro e w31 ⟨rfl, hb⟩; have n0_ := Aside0.mk (blk_below (g := gb189) (o := .cells #[.int .i64 a0_0, .string a0_1, .int .i64 a0_2, .int .i64 a0_3, .int .i64 a0_4, .int .i64 a0_5] 26 (0, 0)) (upK BK189.out) hb); have n1_ := Aside0.mk (below_step (upB1 HB.out GE189.out) hb); clear BK189; clear HB; have BK189 := n0_; have HB := n1_; clear n0_ n1_; (try clear hb)))
      go_ret
      exact ⟨by first | rfl | (simp [errW_none, errW_some] <;> rfl) | (simp [*, errW_none, errW_some] <;> rfl), (upB1 HB.out GE189.out)⟩
  · replace c3 := Bool.eq_false_iff.mpr c3
    subst c3
    have H1 : (some false) = some r := by rw [if_neg (show ¬ (false = true) by decide)] at H; exact H
    clear H
    have H := H1
    clear H1
    obtain rfl := Option.some.inj H
    go_enter Tryd.func17, Tryd.ntmps17
    go_wp2_with (first | ((with_reducible refine gate_dst (N := 1) rfl ?_); refine box_event ?hg (N := 1) ?hd (cs := #[.int .i64 a0_0, .string a0_1, .int .i64 a0_2, .int .i64 a0_3, .int .i64 a0_4, .int .i64 a0_5]) (t := 26) ?hr ?_; (case hd => rfl); (case hg => rfl); (case hr => first | (go_simp; done) | (go_simp; rfl)); intro gb189 hg w32 hbox hb; have n0_ := Aside0.mk (below_step (upB HB.out) hb); have n1_ := Aside0.mk (hbox); have n2_ := Aside0.mk ((by rw [hg]; exact (below_size (upB HB.out)) : w.heap.size ≤ gb189)); have n3_ := Aside0.mk ((by rw [hg]; exact (below_size (upB HB.out)) : w.heap.size ≤ gb189)); clear HB; have HB := n0_; have BK189 := n1_; have GW189 := n2_; have GE189 := n3_; clear n0_ n1_ n2_ n3_; clear hb hbox hg; have hcz33_0 := ci BK189.out 0 a0_0 rfl; have hcz33_1 : w32.cell? ⟨gb189, 1, none⟩ = some (.string a0_1) := (blk_cell BK189.out 1).trans rfl; have hcz33_2 := ci BK189.out 2 a0_2 rfl; have hcz33_3 := ci BK189.out 3 a0_3 rfl; have hcz33_4 := ci BK189.out 4 a0_4 rfl; have hcz33_5 := ci BK189.out 5 a0_5 rfl; have hfz33_0 := fun j_ : Nat => blk_frozen BK189.out j_) | ((with_reducible refine gate_callee (f := 54) rfl ?_); refine goesL_ (some 5) rfl rfl Tryd.func54 (by kernel_rfl) rfl #[.int .i64 a0_0] rfl argsB ?_; (with_reducible refine (impl_isId.calls a0_0 false _ A2.out).mono ?_); rintro e w' ⟨rfl, ⟨nd, rfl⟩⟩; refine ⟨_, rfl, ?_⟩))
    go_ret
    exact ⟨by first | rfl | (simp [errW_none, errW_some] <;> rfl) | (simp [*, errW_none, errW_some] <;> rfl), (upB1 HB.out GE189.out)⟩

-- NOT PRINTED: function 92 (impl_Permit_92)

-- NOT PRINTED: function 59 (impl_Permit_59)

/-! ### impl_Permit_counts: function 72 -/
def impl_Permit_counts.f (a0_0 : Int) (a0_1 : ByteArray) (a0_2 : Int) (a0_3 : Int) (a0_4 : Int) (a0_5 : Int) : Option (Bool) := if a0_5 = 1 then (some true) else (some (a0_5 == 3))
set_option maxHeartbeats 8000000 in
set_option maxRecDepth 100000 in
theorem impl_Permit_counts.calls (a0_0 : Int) (a0_1 : ByteArray) (a0_2 : Int) (a0_3 : Int) (a0_4 : Int) (a0_5 : Int) (r : Bool) (w : World) (h : impl_Permit_counts.f a0_0 a0_1 a0_2 a0_3 a0_4 a0_5 = some r) :
    Calls Tryd.prog 72 #[.agg #[.int .i64 a0_0, .string a0_1, .int .i64 a0_2, .int .i64 a0_3, .int .i64 a0_4, .int .i64 a0_5]] w fun e w' => e = .returned (.bool r) ∧ Below w.heap.size w w' := by
  have hu26 := Tryd.underlying26
  have HB := Aside0.mk (Below.refl w.heap.size w)
  have H : (if a0_5 = 1 then (some true) else (some (a0_5 == 3))) = some r := h
  clear h
  by_cases c2 : a0_5 = 1
  · rw [if_pos c2] at H
    have c2b0 : (a0_5 == 1) = true := beq_iff_eq.mpr c2
    have c2b1 : (a0_5 != 1) = false := bne_eq_false_iff_eq.mpr c2
    clear c2
    obtain rfl := Option.some.inj H
    go_enter Tryd.func72, Tryd.ntmps72
    go_wp2_with (first | ((with_reducible refine gate_dst (N := 1) rfl ?_); refine box_event ?hg (N := 1) ?hd (cs := #[.int .i64 a0_0, .string a0_1, .int .i64 a0_2, .int .i64 a0_3, .int .i64 a0_4, .int .i64 a0_5]) (t := 26) ?hr ?_; (case hd => rfl); (case hg => rfl); (case hr => first | (go_simp; done) | (go_simp; rfl)); intro gb196 hg w3 hbox hb; have n0_ := Aside0.mk (below_step (upB HB.out) hb); have n1_ := Aside0.mk (hbox); have n2_ := Aside0.mk ((by rw [hg]; exact (below_size (upB HB.out)) : w.heap.size ≤ gb196)); have n3_ := Aside0.mk ((by rw [hg]; exact (below_size (upB HB.out)) : w.heap.size ≤ gb196)); clear HB; have HB := n0_; have BK196 := n1_; have GW196 := n2_; have GE196 := n3_; clear n0_ n1_ n2_ n3_; clear hb hbox hg; have hcz4_0 := ci BK196.out 0 a0_0 rfl; have hcz4_1 : w3.cell? ⟨gb196, 1, none⟩ = some (.string a0_1) := (blk_cell BK196.out 1).trans rfl; have hcz4_2 := ci BK196.out 2 a0_2 rfl; have hcz4_3 := ci BK196.out 3 a0_3 rfl; have hcz4_4 := ci BK196.out 4 a0_4 rfl; have hcz4_5 := ci BK196.out 5 a0_5 rfl; have hfz4_0 := fun j_ : Nat => blk_frozen BK196.out j_))
    go_ret
    exact ⟨by first | rfl | (simp [errW_none, errW_some] <;> rfl) | (simp [*, errW_none, errW_some] <;> rfl), (upB1 HB.out GE196.out)⟩
  · rw [if_neg c2] at H
    have c2b0 : (a0_5 == 1) = false := beq_eq_false_iff_ne.mpr c2
    have c2b1 : (a0_5 != 1) = true := bne_iff_ne.mpr c2
    obtain rfl := Option.some.inj H
    go_enter Tryd.func72, Tryd.ntmps72
    go_wp2_with (first | ((with_reducible refine gate_dst (N := 1) rfl ?_); refine box_event ?hg (N := 1) ?hd (cs := #[.int .i64 a0_0, .string a0_1, .int .i64 a0_2, .int .i64 a0_3, .int .i64 a0_4, .int .i64 a0_5]) (t := 26) ?hr ?_; (case hd => rfl); (case hg => rfl); (case hr => first | (go_simp; done) | (go_simp; rfl)); intro gb196 hg w5 hbox hb; have n0_ := Aside0.mk (below_step (upB HB.out) hb); have n1_ := Aside0.mk (hbox); have n2_ := Aside0.mk ((by rw [hg]; exact (below_size (upB HB.out)) : w.heap.size ≤ gb196)); have n3_ := Aside0.mk ((by rw [hg]; exact (below_size (upB HB.out)) : w.heap.size ≤ gb196)); clear HB; have HB := n0_; have BK196 := n1_; have GW196 := n2_; have GE196 := n3_; clear n0_ n1_ n2_ n3_; clear hb hbox hg; have hcz6_0 := ci BK196.out 0 a0_0 rfl; have hcz6_1 : w5.cell? ⟨gb196, 1, none⟩ = some (.string a0_1) := (blk_cell BK196.out 1).trans rfl; have hcz6_2 := ci BK196.out 2 a0_2 rfl; have hcz6_3 := ci BK196.out 3 a0_3 rfl; have hcz6_4 := ci BK196.out 4 a0_4 rfl; have hcz6_5 := ci BK196.out 5 a0_5 rfl; have hfz6_0 := fun j_ : Nat => blk_frozen BK196.out j_))
    go_ret
    exact ⟨by first | rfl | (simp [errW_none, errW_some] <;> rfl) | (simp [*, errW_none, errW_some] <;> rfl), (upB1 HB.out GE196.out)⟩

/-! ### impl_conflict: function 61 -/
def impl_conflict.f (a0_0 : Int) (a0_1 : ByteArray) (a0_2 : Int) (a0_3 : Int) (a0_4 : Int) (a0_5 : Int) (a1_0 : Int) (a1_1 : ByteArray) (a1_2 : Int) (a1_3 : Int) (a1_4 : Int) (a1_5 : Int) : Option (Bool) := (impl_Permit_counts.f a0_0 a0_1 a0_2 a0_3 a0_4 a0_5).bind fun t199 => (if t199 = true then ((impl_Permit_counts.f a1_0 a1_1 a1_2 a1_3 a1_4 a1_5).bind fun t200 => (if t200 = true then (if a0_1.toList = a1_1.toList then (if a0_2 ≤ a1_3 then (some (decide (a1_2 ≤ a0_3))) else (some false)) else (some false)) else (some false))) else (some false))
set_option maxHeartbeats 8000000 in
set_option maxRecDepth 100000 in
theorem impl_conflict.calls (a0_0 : Int) (a0_1 : ByteArray) (a0_2 : Int) (a0_3 : Int) (a0_4 : Int) (a0_5 : Int) (a1_0 : Int) (a1_1 : ByteArray) (a1_2 : Int) (a1_3 : Int) (a1_4 : Int) (a1_5 : Int) (r : Bool) (w : World) (h : impl_conflict.f a0_0 a0_1 a0_2 a0_3 a0_4 a0_5 a1_0 a1_1 a1_2 a1_3 a1_4 a1_5 = some r) :
    Calls Tryd.prog 61 #[.agg #[.int .i64 a0_0, .string a0_1, .int .i64 a0_2, .int .i64 a0_3, .int .i64 a0_4, .int .i64 a0_5], .agg #[.int .i64 a1_0, .string a1_1, .int .i64 a1_2, .int .i64 a1_3, .int .i64 a1_4, .int .i64 a1_5]] w fun e w' => e = .returned (.bool r) ∧ Below w.heap.size w w' := by
  have hu26 := Tryd.underlying26
  have HB := Aside0.mk (Below.refl w.heap.size w)
  have H : ((impl_Permit_counts.f a0_0 a0_1 a0_2 a0_3 a0_4 a0_5).bind fun t199 => (if t199 = true then ((impl_Permit_counts.f a1_0 a1_1 a1_2 a1_3 a1_4 a1_5).bind fun t200 => (if t200 = true then (if a0_1.toList = a1_1.toList then (if a0_2 ≤ a1_3 then (some (decide (a1_2 ≤ a0_3))) else (some false)) else (some false)) else (some false))) else (some false))) = some r := h
  clear h
  replace H := Option.bind_eq_some_iff.mp H
  obtain ⟨t199, A30, H⟩ := H
  replace H : (if t199 = true then ((impl_Permit_counts.f a1_0 a1_1 a1_2 a1_3 a1_4 a1_5).bind fun t200 => (if t200 = true then (if a0_1.toList = a1_1.toList then (if a0_2 ≤ a1_3 then (some (decide (a1_2 ≤ a0_3))) else (some false)) else (some false)) else (some false))) else (some false)) = some r := H
  have A3 := Aside0.mk A30
  clear A30
  by_cases c4 : t199 = true
  · subst c4
    have H1 : ((impl_Permit_counts.f a1_0 a1_1 a1_2 a1_3 a1_4 a1_5).bind fun t200 => (if t200 = true then (if a0_1.toList = a1_1.toList then (if a0_2 ≤ a1_3 then (some (decide (a1_2 ≤ a0_3))) else (some false)) else (some false)) else (some false))) = some r := by rw [if_pos rfl] at H; exact H
    clear H
    have H := H1
    clear H1
    replace H := Option.bind_eq_some_iff.mp H
    obtain ⟨t200, A50, H⟩ := H
    replace H : (if t200 = true then (if a0_1.toList = a1_1.toList then (if a0_2 ≤ a1_3 then (some (decide (a1_2 ≤ a0_3))) else (some false)) else (some false)) else (some false)) = some r := H
    have A5 := Aside0.mk A50
    clear A50
    by_cases c6 : t200 = true
    · subst c6
      have H1 : (if a0_1.toList = a1_1.toList then (if a0_2 ≤ a1_3 then (some (decide (a1_2 ≤ a0_3))) else (some false)) else (some false)) = some r := by rw [if_pos rfl] at H; exact H
      clear H
      have H := H1
      clear H1
      by_cases c7 : a0_1.toList = a1_1.toList
      · rw [if_pos c7] at H
        have c7b0 : (a0_1.toList == a1_1.toList) = true := beq_iff_eq.mpr c7
        have c7b1 : (a0_1.toList != a1_1.toList) = false := bne_eq_false_iff_eq.mpr c7
        clear c7
        by_cases c8 : a0_2 ≤ a1_3
        · rw [if_pos c8] at H
          have c8b0 : decide (a0_2 ≤ a1_3) = true := decide_eq_true c8
          clear c8
          obtain rfl := Option.some.inj H
          go_enter Tryd.func61, Tryd.ntmps61
          go_wp2_with (first | ((with_reducible refine gate_dst (N := 2) rfl ?_); refine box_event ?hg (N := 2) ?hd (cs := #[.int .i64 a0_0, .string a0_1, .int .i64 a0_2, .int .i64 a0_3, .int .i64 a0_4, .int .i64 a0_5]) (t := 26) ?hr ?_; (case hd => rfl); (case hg => rfl); (case hr => first | (go_simp; done) | (go_simp; rfl)); intro gb197 hg w9 hbox hb; have n0_ := Aside0.mk (below_step (upB HB.out) hb); have n1_ := Aside0.mk (hbox); have n2_ := Aside0.mk ((by rw [hg]; exact (below_size (upB HB.out)) : w.heap.size ≤ gb197)); have n3_ := Aside0.mk ((by rw [hg]; exact (below_size (upB HB.out)) : w.heap.size ≤ gb197)); clear HB; have HB := n0_; have BK197 := n1_; have GW197 := n2_; have GE197 := n3_; clear n0_ n1_ n2_ n3_; clear hb hbox hg) | ((with_reducible refine gate_dst (N := 3) rfl ?_); refine box_event ?hg (N := 3) ?hd (cs := #[.int .i64 a1_0, .string a1_1, .int .i64 a1_2, .int .i64 a1_3, .int .i64 a1_4, .int .i64 a1_5]) (t := 26) ?hr ?_; (case hd => rfl); (case hg => rfl); (case hr => first | (go_simp; done) | (go_simp; rfl)); intro gb198 hg w10 hbox hb; have n0_ := Aside0.mk (blk_below (g := gb197) (o := .cells #[.int .i64 a0_0, .string a0_1, .int .i64 a0_2, .int .i64 a0_3, .int .i64 a0_4, .int .i64 a0_5] 26 (0, 0)) (upK BK197.out) hb); have n1_ := Aside0.mk (below_step (upB1 HB.out GE197.out) hb); have n2_ := Aside0.mk (hbox); have n3_ := Aside0.mk ((by rw [hg]; exact (below_size (upB1 HB.out GE197.out)) : w.heap.size ≤ gb198)); have n4_ := Aside0.mk ((by rw [hg]; exact (below_size (upB1 HB.out GE197.out)) : w.heap.size ≤ gb198)); have n5_ := Aside0.mk ((by rw [hg]; exact Nat.ne_of_lt (blk_lt (g := gb197) (o := .cells #[.int .i64 a0_0, .string a0_1, .int .i64 a0_2, .int .i64 a0_3, .int .i64 a0_4, .int .i64 a0_5] 26 (0, 0)) (upK BK197.out)) : gb197 ≠ gb198)); have n6_ := Aside0.mk ((by rw [hg]; exact Nat.ne_of_gt (blk_lt (g := gb197) (o := .cells #[.int .i64 a0_0, .string a0_1, .int .i64 a0_2, .int .i64 a0_3, .int .i64 a0_4, .int .i64 a0_5] 26 (0, 0)) (upK BK197.out)) : gb198 ≠ gb197)); clear BK197; clear HB; have BK197 := n0_; have HB := n1_; have BK198 := n2_; have GW198 := n3_; have GE198 := n4_; have NB197_198 := n5_; have NB198_197 := n6_; clear n0_ n1_ n2_ n3_ n4_ n5_ n6_; clear hb hbox hg; have hnb11 := NB197_198.out; have hnc11 := NB198_197.out; have hcz12_0 := ci BK197.out 0 a0_0 rfl; have hcz12_1 : w10.cell? ⟨gb197, 1, none⟩ = some (.string a0_1) := (blk_cell BK197.out 1).trans rfl; have hcz12_2 := ci BK197.out 2 a0_2 rfl; have hcz12_3 := ci BK197.out 3 a0_3 rfl; have hcz12_4 := ci BK197.out 4 a0_4 rfl; have hcz12_5 := ci BK197.out 5 a0_5 rfl; have hfz12_0 := fun j_ : Nat => blk_frozen BK197.out j_) | ((with_reducible refine gate_callee (f := 72) rfl ?_); refine goesL_ (some 6) rfl rfl Tryd.func72 (by kernel_rfl) rfl #[.agg #[.int .i64 a0_0, .string a0_1, .int .i64 a0_2, .int .i64 a0_3, .int .i64 a0_4, .int .i64 a0_5]] rfl argsB ?_; (with_reducible refine (impl_Permit_counts.calls a0_0 a0_1 a0_2 a0_3 a0_4 a0_5 true _ A3.out).mono ?_); rintro e w13 ⟨rfl, hb⟩; refine ⟨_, rfl, ?_⟩; have n0_ := Aside0.mk (blk_below (g := gb197) (o := .cells #[.int .i64 a0_0, .string a0_1, .int .i64 a0_2, .int .i64 a0_3, .int .i64 a0_4, .int .i64 a0_5] 26 (0, 0)) (upK BK197.out) hb); have n1_ := Aside0.mk (blk_below (g := gb198) (o := .cells #[.int .i64 a1_0, .string a1_1, .int .i64 a1_2, .int .i64 a1_3, .int .i64 a1_4, .int .i64 a1_5] 26 (0, 0)) (upK BK198.out) hb); have n2_ := Aside0.mk (below_step (upB2 HB.out GE197.out GE198.out) hb); clear BK197; clear BK198; clear HB; have BK197 := n0_; have BK198 := n1_; have HB := n2_; clear n0_ n1_ n2_; (try clear hb); have hcz14_0 := ci BK198.out 0 a1_0 rfl; have hcz14_1 : w13.cell? ⟨gb198, 1, none⟩ = some (.string a1_1) := (blk_cell BK198.out 1).trans rfl; have hcz14_2 := ci BK198.out 2 a1_2 rfl; have hcz14_3 := ci BK198.out 3 a1_3 rfl; have hcz14_4 := ci BK198.out 4 a1_4 rfl; have hcz14_5 := ci BK198.out 5 a1_5 rfl; have hfz14_0 := fun j_ : Nat => blk_frozen BK198.out j_) | (go_at_call 72; (with_reducible refine (impl_Permit_counts.calls a1_0 a1_1 a1_2 a1_3 a1_4 a1_5 true _ A5.out).mono ?_); rintro e w15 ⟨rfl, hb⟩; have n0_ := Aside0.mk (blk_below (g := gb197) (o := .cells #[.int .i64 a0_0, .string a0_1, .int .i64 a0_2, .int .i64 a0_3, .int .i64 a0_4, .int .i64 a0_5] 26 (0, 0)) (upK BK197.out) hb); have n1_ := Aside0.mk (blk_below (g := gb198) (o := .cells #[.int .i64 a1_0, .string a1_1, .int .i64 a1_2, .int .i64 a1_3, .int .i64 a1_4, .int .i64 a1_5] 26 (0, 0)) (upK BK198.out) hb); have n2_ := Aside0.mk (below_step (upB2 HB.out GE197.out GE198.out) hb); clear BK197; clear BK198; clear HB; have BK197 := n0_; have BK198 := n1_; have HB := n2_; clear n0_ n1_ n2_; (try clear hb); have hcz16_0 := ci BK197.out 0 a0_0 rfl; have hcz16_1 : w15.cell? ⟨gb197, 1, none⟩ = some (.string a0_1) := (blk_cell BK197.out 1).trans rfl; have hcz16_2 := ci BK197.out 2 a0_2 rfl; have hcz16_3 := ci BK197.out 3 a0_3 rfl; have hcz16_4 := ci BK197.out 4 a0_4 rfl; have hcz16_5 := ci BK197.out 5 a0_5 rfl; have hfz16_0 := fun j_ : Nat => blk_frozen BK197.out j_; have hcz17_0 := ci BK198.out 0 a1_0 rfl; have hcz17_1 : w15.cell? ⟨gb198, 1, none⟩ = some (.string a1_1) := (blk_cell BK198.out 1).trans rfl; have hcz17_2 := ci BK198.out 2 a1_2 rfl; have hcz17_3 := ci BK198.out 3 a1_3 rfl; have hcz17_4 := ci BK198.out 4 a1_4 rfl; have hcz17_5 := ci BK198.out 5 a1_5 rfl; have hfz17_0 := fun j_ : Nat => blk_frozen BK198.out j_))
          go_ret
          exact ⟨by first | rfl | (simp [errW_none, errW_some] <;> rfl) | (simp [*, errW_none, errW_some] <;> rfl), (upB2 HB.out GE197.out GE198.out)⟩
        · rw [if_neg c8] at H
          have c8b0 : decide (a0_2 ≤ a1_3) = false := decide_eq_false c8
          clear c8
          obtain rfl := Option.some.inj H
          go_enter Tryd.func61, Tryd.ntmps61
          go_wp2_with (first | ((with_reducible refine gate_dst (N := 2) rfl ?_); refine box_event ?hg (N := 2) ?hd (cs := #[.int .i64 a0_0, .string a0_1, .int .i64 a0_2, .int .i64 a0_3, .int .i64 a0_4, .int .i64 a0_5]) (t := 26) ?hr ?_; (case hd => rfl); (case hg => rfl); (case hr => first | (go_simp; done) | (go_simp; rfl)); intro gb197 hg w18 hbox hb; have n0_ := Aside0.mk (below_step (upB HB.out) hb); have n1_ := Aside0.mk (hbox); have n2_ := Aside0.mk ((by rw [hg]; exact (below_size (upB HB.out)) : w.heap.size ≤ gb197)); have n3_ := Aside0.mk ((by rw [hg]; exact (below_size (upB HB.out)) : w.heap.size ≤ gb197)); clear HB; have HB := n0_; have BK197 := n1_; have GW197 := n2_; have GE197 := n3_; clear n0_ n1_ n2_ n3_; clear hb hbox hg) | ((with_reducible refine gate_dst (N := 3) rfl ?_); refine box_event ?hg (N := 3) ?hd (cs := #[.int .i64 a1_0, .string a1_1, .int .i64 a1_2, .int .i64 a1_3, .int .i64 a1_4, .int .i64 a1_5]) (t := 26) ?hr ?_; (case hd => rfl); (case hg => rfl); (case hr => first | (go_simp; done) | (go_simp; rfl)); intro gb198 hg w19 hbox hb; have n0_ := Aside0.mk (blk_below (g := gb197) (o := .cells #[.int .i64 a0_0, .string a0_1, .int .i64 a0_2, .int .i64 a0_3, .int .i64 a0_4, .int .i64 a0_5] 26 (0, 0)) (upK BK197.out) hb); have n1_ := Aside0.mk (below_step (upB1 HB.out GE197.out) hb); have n2_ := Aside0.mk (hbox); have n3_ := Aside0.mk ((by rw [hg]; exact (below_size (upB1 HB.out GE197.out)) : w.heap.size ≤ gb198)); have n4_ := Aside0.mk ((by rw [hg]; exact (below_size (upB1 HB.out GE197.out)) : w.heap.size ≤ gb198)); have n5_ := Aside0.mk ((by rw [hg]; exact Nat.ne_of_lt (blk_lt (g := gb197) (o := .cells #[.int .i64 a0_0, .string a0_1, .int .i64 a0_2, .int .i64 a0_3, .int .i64 a0_4, .int .i64 a0_5] 26 (0, 0)) (upK BK197.out)) : gb197 ≠ gb198)); have n6_ := Aside0.mk ((by rw [hg]; exact Nat.ne_of_gt (blk_lt (g := gb197) (o := .cells #[.int .i64 a0_0, .string a0_1, .int .i64 a0_2, .int .i64 a0_3, .int .i64 a0_4, .int .i64 a0_5] 26 (0, 0)) (upK BK197.out)) : gb198 ≠ gb197)); clear BK197; clear HB; have BK197 := n0_; have HB := n1_; have BK198 := n2_; have GW198 := n3_; have GE198 := n4_; have NB197_198 := n5_; have NB198_197 := n6_; clear n0_ n1_ n2_ n3_ n4_ n5_ n6_; clear hb hbox hg; have hnb20 := NB197_198.out; have hnc20 := NB198_197.out; have hcz21_0 := ci BK197.out 0 a0_0 rfl; have hcz21_1 : w19.cell? ⟨gb197, 1, none⟩ = some (.string a0_1) := (blk_cell BK197.out 1).trans rfl; have hcz21_2 := ci BK197.out 2 a0_2 rfl; have hcz21_3 := ci BK197.out 3 a0_3 rfl; have hcz21_4 := ci BK197.out 4 a0_4 rfl; have hcz21_5 := ci BK197.out 5 a0_5 rfl; have hfz21_0 := fun j_ : Nat => blk_frozen BK197.out j_) | ((with_reducible refine gate_callee (f := 72) rfl ?_); refine goesL_ (some 6) rfl rfl Tryd.func72 (by kernel_rfl) rfl #[.agg #[.int .i64 a0_0, .string a0_1, .int .i64 a0_2, .int .i64 a0_3, .int .i64 a0_4, .int .i64 a0_5]] rfl argsB ?_; (with_reducible refine (impl_Permit_counts.calls a0_0 a0_1 a0_2 a0_3 a0_4 a0_5 true _ A3.out).mono ?_); rintro e w22 ⟨rfl, hb⟩; refine ⟨_, rfl, ?_⟩; have n0_ := Aside0.mk (blk_below (g := gb197) (o := .cells #[.int .i64 a0_0, .string a0_1, .int .i64 a0_2, .int .i64 a0_3, .int .i64 a0_4, .int .i64 a0_5] 26 (0, 0)) (upK BK197.out) hb); have n1_ := Aside0.mk (blk_below (g := gb198) (o := .cells #[.int .i64 a1_0, .string a1_1, .int .i64 a1_2, .int .i64 a1_3, .int .i64 a1_4, .int .i64 a1_5] 26 (0, 0)) (upK BK198.out) hb); have n2_ := Aside0.mk (below_step (upB2 HB.out GE197.out GE198.out) hb); clear BK197; clear BK198; clear HB; have BK197 := n0_; have BK198 := n1_; have HB := n2_; clear n0_ n1_ n2_; (try clear hb); have hcz23_0 := ci BK198.out 0 a1_0 rfl; have hcz23_1 : w22.cell? ⟨gb198, 1, none⟩ = some (.string a1_1) := (blk_cell BK198.out 1).trans rfl; have hcz23_2 := ci BK198.out 2 a1_2 rfl; have hcz23_3 := ci BK198.out 3 a1_3 rfl; have hcz23_4 := ci BK198.out 4 a1_4 rfl; have hcz23_5 := ci BK198.out 5 a1_5 rfl; have hfz23_0 := fun j_ : Nat => blk_frozen BK198.out j_) | (go_at_call 72; (with_reducible refine (impl_Permit_counts.calls a1_0 a1_1 a1_2 a1_3 a1_4 a1_5 true _ A5.out).mono ?_); rintro e w24 ⟨rfl, hb⟩; have n0_ := Aside0.mk (blk_below (g := gb197) (o := .cells #[.int .i64 a0_0, .string a0_1, .int .i64 a0_2, .int .i64 a0_3, .int .i64 a0_4, .int .i64 a0_5] 26 (0, 0)) (upK BK197.out) hb); have n1_ := Aside0.mk (blk_below (g := gb198) (o := .cells #[.int .i64 a1_0, .string a1_1, .int .i64 a1_2, .int .i64 a1_3, .int .i64 a1_4, .int .i64 a1_5] 26 (0, 0)) (upK BK198.out) hb); have n2_ := Aside0.mk (below_step (upB2 HB.out GE197.out GE198.out) hb); clear BK197; clear BK198; clear HB; have BK197 := n0_; have BK198 := n1_; have HB := n2_; clear n0_ n1_ n2_; (try clear hb); have hcz25_0 := ci BK197.out 0 a0_0 rfl; have hcz25_1 : w24.cell? ⟨gb197, 1, none⟩ = some (.string a0_1) := (blk_cell BK197.out 1).trans rfl; have hcz25_2 := ci BK197.out 2 a0_2 rfl; have hcz25_3 := ci BK197.out 3 a0_3 rfl; have hcz25_4 := ci BK197.out 4 a0_4 rfl; have hcz25_5 := ci BK197.out 5 a0_5 rfl; have hfz25_0 := fun j_ : Nat => blk_frozen BK197.out j_; have hcz26_0 := ci BK198.out 0 a1_0 rfl; have hcz26_1 : w24.cell? ⟨gb198, 1, none⟩ = some (.string a1_1) := (blk_cell BK198.out 1).trans rfl; have hcz26_2 := ci BK198.out 2 a1_2 rfl; have hcz26_3 := ci BK198.out 3 a1_3 rfl; have hcz26_4 := ci BK198.out 4 a1_4 rfl; have hcz26_5 := ci BK198.out 5 a1_5 rfl; have hfz26_0 := fun j_ : Nat => blk_frozen BK198.out j_))
          go_ret
          exact ⟨by first | rfl | (simp [errW_none, errW_some] <;> rfl) | (simp [*, errW_none, errW_some] <;> rfl), (upB2 HB.out GE197.out GE198.out)⟩
      · rw [if_neg c7] at H
        have c7b0 : (a0_1.toList == a1_1.toList) = false := beq_eq_false_iff_ne.mpr c7
        have c7b1 : (a0_1.toList != a1_1.toList) = true := bne_iff_ne.mpr c7
        obtain rfl := Option.some.inj H
        go_enter Tryd.func61, Tryd.ntmps61
        go_wp2_with (first | ((with_reducible refine gate_dst (N := 2) rfl ?_); refine box_event ?hg (N := 2) ?hd (cs := #[.int .i64 a0_0, .string a0_1, .int .i64 a0_2, .int .i64 a0_3, .int .i64 a0_4, .int .i64 a0_5]) (t := 26) ?hr ?_; (case hd => rfl); (case hg => rfl); (case hr => first | (go_simp; done) | (go_simp; rfl)); intro gb197 hg w27 hbox hb; have n0_ := Aside0.mk (below_step (upB HB.out) hb); have n1_ := Aside0.mk (hbox); have n2_ := Aside0.mk ((by rw [hg]; exact (below_size (upB HB.out)) : w.heap.size ≤ gb197)); have n3_ := Aside0.mk ((by rw [hg]; exact (below_size (upB HB.out)) : w.heap.size ≤ gb197)); clear HB; have HB := n0_; have BK197 := n1_; have GW197 := n2_; have GE197 := n3_; clear n0_ n1_ n2_ n3_; clear hb hbox hg) | ((with_reducible refine gate_dst (N := 3) rfl ?_); refine box_event ?hg (N := 3) ?hd (cs := #[.int .i64 a1_0, .string a1_1, .int .i64 a1_2, .int .i64 a1_3, .int .i64 a1_4, .int .i64 a1_5]) (t := 26) ?hr ?_; (case hd => rfl); (case hg => rfl); (case hr => first | (go_simp; done) | (go_simp; rfl)); intro gb198 hg w28 hbox hb; have n0_ := Aside0.mk (blk_below (g := gb197) (o := .cells #[.int .i64 a0_0, .string a0_1, .int .i64 a0_2, .int .i64 a0_3, .int .i64 a0_4, .int .i64 a0_5] 26 (0, 0)) (upK BK197.out) hb); have n1_ := Aside0.mk (below_step (upB1 HB.out GE197.out) hb); have n2_ := Aside0.mk (hbox); have n3_ := Aside0.mk ((by rw [hg]; exact (below_size (upB1 HB.out GE197.out)) : w.heap.size ≤ gb198)); have n4_ := Aside0.mk ((by rw [hg]; exact (below_size (upB1 HB.out GE197.out)) : w.heap.size ≤ gb198)); have n5_ := Aside0.mk ((by rw [hg]; exact Nat.ne_of_lt (blk_lt (g := gb197) (o := .cells #[.int .i64 a0_0, .string a0_1, .int .i64 a0_2, .int .i64 a0_3, .int .i64 a0_4, .int .i64 a0_5] 26 (0, 0)) (upK BK197.out)) : gb197 ≠ gb198)); have n6_ := Aside0.mk ((by rw [hg]; exact Nat.ne_of_gt (blk_lt (g := gb197) (o := .cells #[.int .i64 a0_0, .string a0_1, .int .i64 a0_2, .int .i64 a0_3, .int .i64 a0_4, .int .i64 a0_5] 26 (0, 0)) (upK BK197.out)) : gb198 ≠ gb197)); clear BK197; clear HB; have BK197 := n0_; have HB := n1_; have BK198 := n2_; have GW198 := n3_; have GE198 := n4_; have NB197_198 := n5_; have NB198_197 := n6_; clear n0_ n1_ n2_ n3_ n4_ n5_ n6_; clear hb hbox hg; have hnb29 := NB197_198.out; have hnc29 := NB198_197.out; have hcz30_0 := ci BK197.out 0 a0_0 rfl; have hcz30_1 : w28.cell? ⟨gb197, 1, none⟩ = some (.string a0_1) := (blk_cell BK197.out 1).trans rfl; have hcz30_2 := ci BK197.out 2 a0_2 rfl; have hcz30_3 := ci BK197.out 3 a0_3 rfl; have hcz30_4 := ci BK197.out 4 a0_4 rfl; have hcz30_5 := ci BK197.out 5 a0_5 rfl; have hfz30_0 := fun j_ : Nat => blk_frozen BK197.out j_) | ((with_reducible refine gate_callee (f := 72) rfl ?_); refine goesL_ (some 6) rfl rfl Tryd.func72 (by kernel_rfl) rfl #[.agg #[.int .i64 a0_0, .string a0_1, .int .i64 a0_2, .int .i64 a0_3, .int .i64 a0_4, .int .i64 a0_5]] rfl argsB ?_; (with_reducible refine (impl_Permit_counts.calls a0_0 a0_1 a0_2 a0_3 a0_4 a0_5 true _ A3.out).mono ?_); rintro e w31 ⟨rfl, hb⟩; refine ⟨_, rfl, ?_⟩; have n0_ := Aside0.mk (blk_below (g := gb197) (o := .cells #[.int .i64 a0_0, .string a0_1, .int .i64 a0_2, .int .i64 a0_3, .int .i64 a0_4, .int .i64 a0_5] 26 (0, 0)) (upK BK197.out) hb); have n1_ := Aside0.mk (blk_below (g := gb198) (o := .cells #[.int .i64 a1_0, .string a1_1, .int .i64 a1_2, .int .i64 a1_3, .int .i64 a1_4, .int .i64 a1_5] 26 (0, 0)) (upK BK198.out) hb); have n2_ := Aside0.mk (below_step (upB2 HB.out GE197.out GE198.out) hb); clear BK197; clear BK198; clear HB; have BK197 := n0_; have BK198 := n1_; have HB := n2_; clear n0_ n1_ n2_; (try clear hb); have hcz32_0 := ci BK198.out 0 a1_0 rfl; have hcz32_1 : w31.cell? ⟨gb198, 1, none⟩ = some (.string a1_1) := (blk_cell BK198.out 1).trans rfl; have hcz32_2 := ci BK198.out 2 a1_2 rfl; have hcz32_3 := ci BK198.out 3 a1_3 rfl; have hcz32_4 := ci BK198.out 4 a1_4 rfl; have hcz32_5 := ci BK198.out 5 a1_5 rfl; have hfz32_0 := fun j_ : Nat => blk_frozen BK198.out j_) | (go_at_call 72; (with_reducible refine (impl_Permit_counts.calls a1_0 a1_1 a1_2 a1_3 a1_4 a1_5 true _ A5.out).mono ?_); rintro e w33 ⟨rfl, hb⟩; have n0_ := Aside0.mk (blk_below (g := gb197) (o := .cells #[.int .i64 a0_0, .string a0_1, .int .i64 a0_2, .int .i64 a0_3, .int .i64 a0_4, .int .i64 a0_5] 26 (0, 0)) (upK BK197.out) hb); have n1_ := Aside0.mk (blk_below (g := gb198) (o := .cells #[.int .i64 a1_0, .string a1_1, .int .i64 a1_2, .int .i64 a1_3, .int .i64 a1_4, .int .i64 a1_5] 26 (0, 0)) (upK BK198.out) hb); have n2_ := Aside0.mk (below_step (upB2 HB.out GE197.out GE198.out) hb); clear BK197; clear BK198; clear HB; have BK197 := n0_; have BK198 := n1_; have HB := n2_; clear n0_ n1_ n2_; (try clear hb); have hcz34_0 := ci BK197.out 0 a0_0 rfl; have hcz34_1 : w33.cell? ⟨gb197, 1, none⟩ = some (.string a0_1) := (blk_cell BK197.out 1).trans rfl; have hcz34_2 := ci BK197.out 2 a0_2 rfl; have hcz34_3 := ci BK197.out 3 a0_3 rfl; have hcz34_4 := ci BK197.out 4 a0_4 rfl; have hcz34_5 := ci BK197.out 5 a0_5 rfl; have hfz34_0 := fun j_ : Nat => blk_frozen BK197.out j_; have hcz35_0 := ci BK198.out 0 a1_0 rfl; have hcz35_1 : w33.cell? ⟨gb198, 1, none⟩ = some (.string a1_1) := (blk_cell BK198.out 1).trans rfl; have hcz35_2 := ci BK198.out 2 a1_2 rfl; have hcz35_3 := ci BK198.out 3 a1_3 rfl; have hcz35_4 := ci BK198.out 4 a1_4 rfl; have hcz35_5 := ci BK198.out 5 a1_5 rfl; have hfz35_0 := fun j_ : Nat => blk_frozen BK198.out j_))
        go_ret
        exact ⟨by first | rfl | (simp [errW_none, errW_some] <;> rfl) | (simp [*, errW_none, errW_some] <;> rfl), (upB2 HB.out GE197.out GE198.out)⟩
    · replace c6 := Bool.eq_false_iff.mpr c6
      subst c6
      have H1 : (some false) = some r := by rw [if_neg (show ¬ (false = true) by decide)] at H; exact H
      clear H
      have H := H1
      clear H1
      obtain rfl := Option.some.inj H
      go_enter Tryd.func61, Tryd.ntmps61
      go_wp2_with (first | ((with_reducible refine gate_dst (N := 2) rfl ?_); refine box_event ?hg (N := 2) ?hd (cs := #[.int .i64 a0_0, .string a0_1, .int .i64 a0_2, .int .i64 a0_3, .int .i64 a0_4, .int .i64 a0_5]) (t := 26) ?hr ?_; (case hd => rfl); (case hg => rfl); (case hr => first | (go_simp; done) | (go_simp; rfl)); intro gb197 hg w36 hbox hb; have n0_ := Aside0.mk (below_step (upB HB.out) hb); have n1_ := Aside0.mk (hbox); have n2_ := Aside0.mk ((by rw [hg]; exact (below_size (upB HB.out)) : w.heap.size ≤ gb197)); have n3_ := Aside0.mk ((by rw [hg]; exact (below_size (upB HB.out)) : w.heap.size ≤ gb197)); clear HB; have HB := n0_; have BK197 := n1_; have GW197 := n2_; have GE197 := n3_; clear n0_ n1_ n2_ n3_; clear hb hbox hg) | ((with_reducible refine gate_dst (N := 3) rfl ?_); refine box_event ?hg (N := 3) ?hd (cs := #[.int .i64 a1_0, .string a1_1, .int .i64 a1_2, .int .i64 a1_3, .int .i64 a1_4, .int .i64 a1_5]) (t := 26) ?hr ?_; (case hd => rfl); (case hg => rfl); (case hr => first | (go_simp; done) | (go_simp; rfl)); intro gb198 hg w37 hbox hb; have n0_ := Aside0.mk (blk_below (g := gb197) (o := .cells #[.int .i64 a0_0, .string a0_1, .int .i64 a0_2, .int .i64 a0_3, .int .i64 a0_4, .int .i64 a0_5] 26 (0, 0)) (upK BK197.out) hb); have n1_ := Aside0.mk (below_step (upB1 HB.out GE197.out) hb); have n2_ := Aside0.mk (hbox); have n3_ := Aside0.mk ((by rw [hg]; exact (below_size (upB1 HB.out GE197.out)) : w.heap.size ≤ gb198)); have n4_ := Aside0.mk ((by rw [hg]; exact (below_size (upB1 HB.out GE197.out)) : w.heap.size ≤ gb198)); have n5_ := Aside0.mk ((by rw [hg]; exact Nat.ne_of_lt (blk_lt (g := gb197) (o := .cells #[.int .i64 a0_0, .string a0_1, .int .i64 a0_2, .int .i64 a0_3, .int .i64 a0_4, .int .i64 a0_5] 26 (0, 0)) (upK BK197.out)) : gb197 ≠ gb198)); have n6_ := Aside0.mk ((by rw [hg]; exact Nat.ne_of_gt (blk_lt (g := gb197) (o := .cells #[.int .i64 a0_0, .string a0_1, .int .i64 a0_2, .int .i64 a0_3, .int .i64 a0_4, .int .i64 a0_5] 26 (0, 0)) (upK BK197.out)) : gb198 ≠ gb197)); clear BK197; clear HB; have BK197 := n0_; have HB := n1_; have BK198 := n2_; have GW198 := n3_; have GE198 := n4_; have NB197_198 := n5_; have NB198_197 := n6_; clear n0_ n1_ n2_ n3_ n4_ n5_ n6_; clear hb hbox hg; have hnb38 := NB197_198.out; have hnc38 := NB198_197.out; have hcz39_0 := ci BK197.out 0 a0_0 rfl; have hcz39_1 : w37.cell? ⟨gb197, 1, none⟩ = some (.string a0_1) := (blk_cell BK197.out 1).trans rfl; have hcz39_2 := ci BK197.out 2 a0_2 rfl; have hcz39_3 := ci BK197.out 3 a0_3 rfl; have hcz39_4 := ci BK197.out 4 a0_4 rfl; have hcz39_5 := ci BK197.out 5 a0_5 rfl; have hfz39_0 := fun j_ : Nat => blk_frozen BK197.out j_) | ((with_reducible refine gate_callee (f := 72) rfl ?_); refine goesL_ (some 6) rfl rfl Tryd.func72 (by kernel_rfl) rfl #[.agg #[.int .i64 a0_0, .string a0_1, .int .i64 a0_2, .int .i64 a0_3, .int .i64 a0_4, .int .i64 a0_5]] rfl argsB ?_; (with_reducible refine (impl_Permit_counts.calls a0_0 a0_1 a0_2 a0_3 a0_4 a0_5 true _ A3.out).mono ?_); rintro e w40 ⟨rfl, hb⟩; refine ⟨_, rfl, ?_⟩; have n0_ := Aside0.mk (blk_below (g := gb197) (o := .cells #[.int .i64 a0_0, .string a0_1, .int .i64 a0_2, .int .i64 a0_3, .int .i64 a0_4, .int .i64 a0_5] 26 (0, 0)) (upK BK197.out) hb); have n1_ := Aside0.mk (blk_below (g := gb198) (o := .cells #[.int .i64 a1_0, .string a1_1, .int .i64 a1_2, .int .i64 a1_3, .int .i64 a1_4, .int .i64 a1_5] 26 (0, 0)) (upK BK198.out) hb); have n2_ := Aside0.mk (below_step (upB2 HB.out GE197.out GE198.out) hb); clear BK197; clear BK198; clear HB; have BK197 := n0_; have BK198 := n1_; have HB := n2_; clear n0_ n1_ n2_; (try clear hb); have hcz41_0 := ci BK198.out 0 a1_0 rfl; have hcz41_1 : w40.cell? ⟨gb198, 1, none⟩ = some (.string a1_1) := (blk_cell BK198.out 1).trans rfl; have hcz41_2 := ci BK198.out 2 a1_2 rfl; have hcz41_3 := ci BK198.out 3 a1_3 rfl; have hcz41_4 := ci BK198.out 4 a1_4 rfl; have hcz41_5 := ci BK198.out 5 a1_5 rfl; have hfz41_0 := fun j_ : Nat => blk_frozen BK198.out j_) | (go_at_call 72; (with_reducible refine (impl_Permit_counts.calls a1_0 a1_1 a1_2 a1_3 a1_4 a1_5 false _ A5.out).mono ?_); rintro e w42 ⟨rfl, hb⟩; have n0_ := Aside0.mk (blk_below (g := gb197) (o := .cells #[.int .i64 a0_0, .string a0_1, .int .i64 a0_2, .int .i64 a0_3, .int .i64 a0_4, .int .i64 a0_5] 26 (0, 0)) (upK BK197.out) hb); have n1_ := Aside0.mk (blk_below (g := gb198) (o := .cells #[.int .i64 a1_0, .string a1_1, .int .i64 a1_2, .int .i64 a1_3, .int .i64 a1_4, .int .i64 a1_5] 26 (0, 0)) (upK BK198.out) hb); have n2_ := Aside0.mk (below_step (upB2 HB.out GE197.out GE198.out) hb); clear BK197; clear BK198; clear HB; have BK197 := n0_; have BK198 := n1_; have HB := n2_; clear n0_ n1_ n2_; (try clear hb)))
      go_ret
      exact ⟨by first | rfl | (simp [errW_none, errW_some] <;> rfl) | (simp [*, errW_none, errW_some] <;> rfl), (upB2 HB.out GE197.out GE198.out)⟩
  · replace c4 := Bool.eq_false_iff.mpr c4
    subst c4
    have H1 : (some false) = some r := by rw [if_neg (show ¬ (false = true) by decide)] at H; exact H
    clear H
    have H := H1
    clear H1
    obtain rfl := Option.some.inj H
    go_enter Tryd.func61, Tryd.ntmps61
    go_wp2_with (first | ((with_reducible refine gate_dst (N := 2) rfl ?_); refine box_event ?hg (N := 2) ?hd (cs := #[.int .i64 a0_0, .string a0_1, .int .i64 a0_2, .int .i64 a0_3, .int .i64 a0_4, .int .i64 a0_5]) (t := 26) ?hr ?_; (case hd => rfl); (case hg => rfl); (case hr => first | (go_simp; done) | (go_simp; rfl)); intro gb197 hg w43 hbox hb; have n0_ := Aside0.mk (below_step (upB HB.out) hb); have n1_ := Aside0.mk (hbox); have n2_ := Aside0.mk ((by rw [hg]; exact (below_size (upB HB.out)) : w.heap.size ≤ gb197)); have n3_ := Aside0.mk ((by rw [hg]; exact (below_size (upB HB.out)) : w.heap.size ≤ gb197)); clear HB; have HB := n0_; have BK197 := n1_; have GW197 := n2_; have GE197 := n3_; clear n0_ n1_ n2_ n3_; clear hb hbox hg) | ((with_reducible refine gate_dst (N := 3) rfl ?_); refine box_event ?hg (N := 3) ?hd (cs := #[.int .i64 a1_0, .string a1_1, .int .i64 a1_2, .int .i64 a1_3, .int .i64 a1_4, .int .i64 a1_5]) (t := 26) ?hr ?_; (case hd => rfl); (case hg => rfl); (case hr => first | (go_simp; done) | (go_simp; rfl)); intro gb198 hg w44 hbox hb; have n0_ := Aside0.mk (blk_below (g := gb197) (o := .cells #[.int .i64 a0_0, .string a0_1, .int .i64 a0_2, .int .i64 a0_3, .int .i64 a0_4, .int .i64 a0_5] 26 (0, 0)) (upK BK197.out) hb); have n1_ := Aside0.mk (below_step (upB1 HB.out GE197.out) hb); have n2_ := Aside0.mk (hbox); have n3_ := Aside0.mk ((by rw [hg]; exact (below_size (upB1 HB.out GE197.out)) : w.heap.size ≤ gb198)); have n4_ := Aside0.mk ((by rw [hg]; exact (below_size (upB1 HB.out GE197.out)) : w.heap.size ≤ gb198)); have n5_ := Aside0.mk ((by rw [hg]; exact Nat.ne_of_lt (blk_lt (g := gb197) (o := .cells #[.int .i64 a0_0, .string a0_1, .int .i64 a0_2, .int .i64 a0_3, .int .i64 a0_4, .int .i64 a0_5] 26 (0, 0)) (upK BK197.out)) : gb197 ≠ gb198)); have n6_ := Aside0.mk ((by rw [hg]; exact Nat.ne_of_gt (blk_lt (g := gb197) (o := .cells #[.int .i64 a0_0, .string a0_1, .int .i64 a0_2, .int .i64 a0_3, .int .i64 a0_4, .int .i64 a0_5] 26 (0, 0)) (upK BK197.out)) : gb198 ≠ gb197)); clear BK197; clear HB; have BK197 := n0_; have HB := n1_; have BK198 := n2_; have GW198 := n3_; have GE198 := n4_; have NB197_198 := n5_; have NB198_197 := n6_; clear n0_ n1_ n2_ n3_ n4_ n5_ n6_; clear hb hbox hg; have hnb45 := NB197_198.out; have hnc45 := NB198_197.out; have hcz46_0 := ci BK197.out 0 a0_0 rfl; have hcz46_1 : w44.cell? ⟨gb197, 1, none⟩ = some (.string a0_1) := (blk_cell BK197.out 1).trans rfl; have hcz46_2 := ci BK197.out 2 a0_2 rfl; have hcz46_3 := ci BK197.out 3 a0_3 rfl; have hcz46_4 := ci BK197.out 4 a0_4 rfl; have hcz46_5 := ci BK197.out 5 a0_5 rfl; have hfz46_0 := fun j_ : Nat => blk_frozen BK197.out j_) | ((with_reducible refine gate_callee (f := 72) rfl ?_); refine goesL_ (some 6) rfl rfl Tryd.func72 (by kernel_rfl) rfl #[.agg #[.int .i64 a0_0, .string a0_1, .int .i64 a0_2, .int .i64 a0_3, .int .i64 a0_4, .int .i64 a0_5]] rfl argsB ?_; (with_reducible refine (impl_Permit_counts.calls a0_0 a0_1 a0_2 a0_3 a0_4 a0_5 false _ A3.out).mono ?_); rintro e w47 ⟨rfl, hb⟩; refine ⟨_, rfl, ?_⟩; have n0_ := Aside0.mk (blk_below (g := gb197) (o := .cells #[.int .i64 a0_0, .string a0_1, .int .i64 a0_2, .int .i64 a0_3, .int .i64 a0_4, .int .i64 a0_5] 26 (0, 0)) (upK BK197.out) hb); have n1_ := Aside0.mk (blk_below (g := gb198) (o := .cells #[.int .i64 a1_0, .string a1_1, .int .i64 a1_2, .int .i64 a1_3, .int .i64 a1_4, .int .i64 a1_5] 26 (0, 0)) (upK BK198.out) hb); have n2_ := Aside0.mk (below_step (upB2 HB.out GE197.out GE198.out) hb); clear BK197; clear BK198; clear HB; have BK197 := n0_; have BK198 := n1_; have HB := n2_; clear n0_ n1_ n2_; (try clear hb)))
    go_ret
    exact ⟨by first | rfl | (simp [errW_none, errW_some] <;> rfl) | (simp [*, errW_none, errW_some] <;> rfl), (upB2 HB.out GE197.out GE198.out)⟩

/-! ### impl_xConflicts: function 140 -/
-- reaches: impl.conflict
theorem cells6 {W : World} {b : Nat} {t : TypeId} {u0 u1 u2 u3 u4 u5 v0 v1 v2 v3 v4 v5 : Value} (h : W.heap[b]? = some (.cells #[u0, u1, u2, u3, u4, u5] t (0, 0))) : ((((((W.setCell ⟨b, 0, none⟩ v0).setCell ⟨b, 1, none⟩ v1).setCell ⟨b, 2, none⟩ v2).setCell ⟨b, 3, none⟩ v3).setCell ⟨b, 4, none⟩ v4).setCell ⟨b, 5, none⟩ v5).heap[b]? = some (.cells #[v0, v1, v2, v3, v4, v5] t (0, 0)) :=
  blk_put (cs := #[v0, v1, v2, v3, v4, u5]) (blk_put (cs := #[v0, v1, v2, v3, u4, u5]) (blk_put (cs := #[v0, v1, v2, u3, u4, u5]) (blk_put (cs := #[v0, v1, u2, u3, u4, u5]) (blk_put (cs := #[v0, u1, u2, u3, u4, u5]) (blk_put (cs := #[u0, u1, u2, u3, u4, u5]) h 0 v0 rfl) 1 v1 rfl) 2 v2 rfl) 3 v3 rfl) 4 v4 rfl) 5 v5 rfl

theorem getD_drop' {α : Type} (xs : List α) (i : Nat) (d : α) (h : i < xs.length) : xs.drop i = xs.getD i d :: xs.drop (i + 1) := by
  rw [List.drop_eq_getElem_cons h]
  simp [List.getD, List.getElem?_eq_getElem h]
theorem getD_mem' {α : Type} (xs : List α) (i : Nat) (d : α) (h : i < xs.length) : xs.getD i d ∈ xs := by
  rw [List.getD_eq_getElem?_getD, List.getElem?_eq_getElem h]
  exact List.getElem_mem h
def idxP26 (p : S26 → Bool) : List (S26) → Int → Int
  | [], _ => -1
  | x :: l, i => if p x = true then i else idxP26 p l (i + 1)
theorem idxP26_any (p : S26 → Bool) : ∀ (l : List (S26)) (i : Int), 0 ≤ i → decide (0 ≤ idxP26 p l i) = l.any p := by
  intro l
  induction l with
  | nil => intro i h; rfl
  | cons x l ih =>
    intro i h
    rw [idxP26, List.any_cons]
    by_cases c : p x = true
    · rw [if_pos c, c, Bool.true_or]; exact decide_eq_true h
    · rw [if_neg c, Bool.eq_false_iff.mpr c, Bool.false_or]; exact ih (i + 1) (by omega)

set_option maxHeartbeats 4000000 in
set_option maxRecDepth 100000 in
theorem IndexFunc_conflicts (p : S26 → Bool) (V : Value) (A0 : Option Addr) (c0 : Nat) (l0 : List (S26)) (w : World) (hr0 : Kd.C k26 w A0 l0.length l0) (hc0 : l0.length ≤ c0)
    (hp : ∀ (x : S26) (W : World), x ∈ l0 → Below w.heap.size w W → Calls Tryd.prog 60 #[.agg #[.int .i64 x.f0, .string x.f1, .int .i64 x.f2, .int .i64 x.f3, .int .i64 x.f4, .int .i64 x.f5], V] W fun e W' => e = .returned (.bool (p x)) ∧ Below W.heap.size W W') :
    Calls Tryd.prog 92 #[.slice A0 l0.length c0, .func (.func 60) #[] #[V]] w fun e w' => e = .returned (.int .i64 (idxP26 p l0 0)) ∧ Below w.heap.size w w' := by
  have hu := Tryd.underlying26
  have hm := hr0.2.1
  go_enter Tryd.func92, Tryd.ntmps92
  go_wp2
  go_loopw [8] (fun v wr => ∃ i : Nat, i ≤ l0.length ∧ v = .int .i64 i ∧ idxP26 p l0 0 = idxP26 p (l0.drop i) i ∧ Below w.heap.size w wr) (fun v _ => l0.length - (intOf v).toNat)
  case atStart => exact ⟨0, by omega, rfl, by simp, Below.refl _ _⟩
  case round =>
    obtain ⟨i, hi, rfl, he, hb⟩ := hrel
    by_cases hlt : i < l0.length
    · obtain ⟨ad, rfl, h0, h1, h2, h3, h4, h5⟩ := at_T26 (Kd.C_below hr0 hb) (i : Int) (by omega) (by omega)
      have hx : rd_T26 l0 (i : Int) = l0.getD i z26 := by unfold rd_T26; rw [Int.toNat_natCast]
      have hmem := getD_mem' l0 i z26 hlt
      rw [hx] at h0 h1 h2 h3 h4 h5
      rw [getD_drop' l0 i z26 hlt] at he
      generalize l0.getD i z26 = x at h0 h1 h2 h3 h4 h5 he hx hmem
      clear hx
      rw [Int.toNat_natCast] at h0 h1 h2 h3 h4 h5
      cases hpx : p x with
      | true =>
        have hq := hp x wr hmem hb
        rw [hpx] at hq
        have he' := Aside0.mk he
        have hb' := Aside0.mk hb
        have hpx' := Aside0.mk hpx
        clear he hb hp hpx hmem
        go_wp2_with (go_at_call 60; refine hq.mono ?_; rintro e w1 ⟨rfl, hb1⟩)
        go_ret
        refine ⟨?_, hb'.out.trans (hb1.mono hb'.out.size)⟩
        rw [he'.out, idxP26, if_pos hpx'.out]
        rfl
      | false =>
        have hq := hp x wr hmem hb
        rw [hpx] at hq
        have he' := Aside0.mk he
        have hb' := Aside0.mk hb
        have hpx' := Aside0.mk hpx
        have hp' := Aside0.mk hp
        clear he hb hp hpx hmem
        go_wp2_with (go_at_call 60; refine hq.mono ?_; rintro e w1 ⟨rfl, hb1⟩)
        go_roundw
        case rel => exact ⟨i + 1, by omega, by go_num, by rw [he'.out, idxP26, hpx'.out]; rfl, hb'.out.trans (hb1.mono hb'.out.size)⟩
        case measure => simp [intOf]; omega
    · have hd : l0.drop i = [] := List.drop_eq_nil_of_le (by omega)
      rw [hd] at he
      have he' := Aside0.mk he
      have hb' := Aside0.mk hb
      clear he hb hp hd
      go_wp2
      go_ret
      exact ⟨by rw [he'.out, idxP26]; rfl, hb'.out⟩

set_option maxHeartbeats 4000000 in
theorem ContainsFunc_conflicts (p : S26 → Bool) (V : Value) (A0 : Option Addr) (c0 : Nat) (l0 : List (S26)) (w : World) (hr0 : Kd.C k26 w A0 l0.length l0) (hc0 : l0.length ≤ c0)
    (hp : ∀ (x : S26) (W : World), x ∈ l0 → Below w.heap.size w W → Calls Tryd.prog 60 #[.agg #[.int .i64 x.f0, .string x.f1, .int .i64 x.f2, .int .i64 x.f3, .int .i64 x.f4, .int .i64 x.f5], V] W fun e W' => e = .returned (.bool (p x)) ∧ Below W.heap.size W W') :
    Calls Tryd.prog 59 #[.slice A0 l0.length c0, .func (.func 60) #[] #[V]] w fun e w' => e = .returned (.bool (l0.any p)) ∧ Below w.heap.size w w' := by
  have hcon := IndexFunc_conflicts p V A0 c0 l0 w hr0 hc0 hp
  have ha := idxP26_any p l0 0 (by omega)
  generalize idxP26 p l0 0 = q at hcon ha
  generalize l0.any p = b at ha ⊢
  clear hp
  go_enter Tryd.func59, Tryd.ntmps59
  go_wp2_with (go_at_call 92; refine hcon.mono ?_; rintro e w1 ⟨rfl, hb1⟩)
  go_ret
  exact ⟨rfl, hb1⟩

theorem conflict_tot (y0 : Int) (y1 : ByteArray) (y2 y3 y4 y5 : Int) (x0 : Int) (x1 : ByteArray) (x2 x3 x4 x5 : Int) : ∃ r, impl_conflict.f y0 y1 y2 y3 y4 y5 x0 x1 x2 x3 x4 x5 = some r := by
  have e : ∀ (a : Int) (b : ByteArray) (c d e f : Int), impl_Permit_counts.f a b c d e f = some (f == 1 || f == 3) := by
    intro a b c d e f
    unfold impl_Permit_counts.f
    by_cases h : f = 1 <;> simp [h]
  unfold impl_conflict.f
  simp only [e, Option.bind_some]
  repeat' split
  all_goals exact ⟨_, rfl⟩
theorem conflictsClosure (x : S26) (y0 : Int) (y1 : ByteArray) (y2 y3 y4 y5 : Int) (r : Bool) (b : Nat) (W : World) (hb : W.heap[b]? = some (.cells #[.int .i64 y0, .string y1, .int .i64 y2, .int .i64 y3, .int .i64 y4, .int .i64 y5] 26 (0, 0))) (h : impl_conflict.f y0 y1 y2 y3 y4 y5 x.f0 x.f1 x.f2 x.f3 x.f4 x.f5 = some r) :
    Calls Tryd.prog 60 #[.agg #[.int .i64 x.f0, .string x.f1, .int .i64 x.f2, .int .i64 x.f3, .int .i64 x.f4, .int .i64 x.f5], .pointer (some ⟨b, 0, none⟩)] W fun e W' => e = .returned (.bool r) ∧ Below W.heap.size W W' := by
  have hu := Tryd.underlying26
  have h0 := (blk_cell hb 0).trans rfl
  have h1 := (blk_cell hb 1).trans rfl
  have h2 := (blk_cell hb 2).trans rfl
  have h3 := (blk_cell hb 3).trans rfl
  have h4 := (blk_cell hb 4).trans rfl
  have h5 := (blk_cell hb 5).trans rfl
  have hl := World.block_lt_of_cell? W _ h0
  have hcon := fun V => impl_conflict.calls y0 y1 y2 y3 y4 y5 x.f0 x.f1 x.f2 x.f3 x.f4 x.f5 r V h
  clear h hb
  go_enter Tryd.func60, Tryd.ntmps60
  go_wp2_with (go_at_call 61; refine (hcon _).mono ?_; rintro e w1 ⟨rfl, hb1⟩)
  go_ret
  exact ⟨rfl, ((Below.refl _ W).alloc (Nat.le_refl _) _).trans (hb1.mono (by simp))⟩
def impl_xConflicts.f (l0 : List (S26)) (a1_0 : Int) (a1_1 : ByteArray) (a1_2 a1_3 a1_4 a1_5 : Int) : Option Bool := some (l0.any fun x => impl_conflict.f a1_0 a1_1 a1_2 a1_3 a1_4 a1_5 x.f0 x.f1 x.f2 x.f3 x.f4 x.f5 == some true)
theorem impl_xConflicts.calls (A0 : Option Addr) (c0 : Nat) (l0 : List (S26)) (a1_0 : Int) (a1_1 : ByteArray) (a1_2 a1_3 a1_4 a1_5 : Int) (r : Bool) (w : World) (hr0 : Kd.C k26 w A0 l0.length l0) (hc0 : l0.length ≤ c0) (h : impl_xConflicts.f l0 a1_0 a1_1 a1_2 a1_3 a1_4 a1_5 = some r) {b : Nat} (hcell : w.heap[b]? = some (.cells #[.int .i64 a1_0, .string a1_1, .int .i64 a1_2, .int .i64 a1_3, .int .i64 a1_4, .int .i64 a1_5] 26 (0, 0)) := by first | assumption | (refine Aside0.out ?_; assumption) | (apply cells6; refine Aside0.out ?_; assumption)) :
    Calls Tryd.prog 59 #[.slice A0 l0.length c0, .func (.func 60) #[] #[.pointer (some ⟨b, 0, none⟩)]] w fun e w' => e = .returned (.bool r) ∧ Below w.heap.size w w' := by
  obtain rfl := Option.some.inj h
  refine ContainsFunc_conflicts (fun x => impl_conflict.f a1_0 a1_1 a1_2 a1_3 a1_4 a1_5 x.f0 x.f1 x.f2 x.f3 x.f4 x.f5 == some true) (.pointer (some ⟨b, 0, none⟩)) A0 c0 l0 w hr0 hc0 (fun x W _ hB => ?_)
  obtain ⟨r, hr⟩ := conflict_tot a1_0 a1_1 a1_2 a1_3 a1_4 a1_5 x.f0 x.f1 x.f2 x.f3 x.f4 x.f5
  have := conflictsClosure x a1_0 a1_1 a1_2 a1_3 a1_4 a1_5 r b W (blk_below hcell hB) hr
  simp only [hr]
  cases r <;> exact this

end Go.Proofs.YtgeioccfjgpijaaDoor.QFnExactLapsePermits
