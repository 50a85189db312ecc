/- Contracts of Go functions that FnExactUsePermit reaches: the call computes what the plain function says. No condition. -/
import Derived.Test.YtgeioccfjgpijaaDoorQFnExactUsePermitx0
namespace Go.Proofs.YtgeioccfjgpijaaDoor.QFnExactUsePermit
open Go.RowKit Go.Proofs.YtgeioccfjgpijaaDoorW.PrintWords Go.Proofs.YtgeioccfjgpijaaDoorW.PrintLast Go.Proofs.YtgeioccfjgpijaaDoorW.PrintMore
attribute [local go_sem] max2_int min2_int max_two min_two max_three min_three max_four min_four   -- for this text's walks alone
set_option linter.unusedVariables false
set_option linter.unusedSimpArgs false

/-! ### spec_l22With: function 71 -/
def spec_l22With.f (l0 : List (S26)) (a1 : Int) (a2 : Int) : Option ((List (S26))) := (some (([] : List (S26)) : List (S26))).bind fun y161 => (if y161.length + l0.length < 2513169434916 then ((some (y161 ++ l0 : List (S26))).bind fun y164 => (if 0 ≤ a1 then (if a1 < (y164.length : Int) then (some (y164.set (a1 : Int).toNat (⟨(rd_T26 y164 a1).f0, (rd_T26 y164 a1).f1, (rd_T26 y164 a1).f2, (rd_T26 y164 a1).f3, (rd_T26 y164 a1).f4, a2⟩ : S26))) else (none)) else (none))) else (none))
set_option maxHeartbeats 8000000 in
set_option maxRecDepth 100000 in
theorem spec_l22With.calls (A0 : Option Addr) (c0 : Nat) (l0 : List (S26)) (a1 : Int) (a2 : Int) (r : List (S26)) (w : World) (hr0 : Kd.C k26 w A0 l0.length l0) (hc0 : l0.length ≤ c0) (h : spec_l22With.f l0 a1 a2 = some r) :
    Calls Tryd.prog 71 #[.slice A0 l0.length c0, .int .i64 a1, .int .i64 a2] w fun e w' => ∃ v0_ : Value, e = .returned (v0_) ∧ Kd.R k26 26 w' w.heap.size (fun _ => True) v0_ r ∧ Below w.heap.size w w' := by
  have hu26 := Tryd.underlying26
  have HR0 := Aside0.mk hr0
  have HC0 := Aside0.mk hc0
  clear hr0 hc0
  have HB := Aside0.mk (Below.refl w.heap.size w)
  have H : ((some (([] : List (S26)) : List (S26))).bind fun y161 => (if y161.length + l0.length < 2513169434916 then ((some (y161 ++ l0 : List (S26))).bind fun y164 => (if 0 ≤ a1 then (if a1 < (y164.length : Int) then (some (y164.set (a1 : Int).toNat (⟨(rd_T26 y164 a1).f0, (rd_T26 y164 a1).f1, (rd_T26 y164 a1).f2, (rd_T26 y164 a1).f3, (rd_T26 y164 a1).f4, a2⟩ : S26))) else (none)) else (none))) else (none))) = some r := h
  clear h
  obtain ⟨y161, hy161⟩ : ∃ y_ : List (S26), y_ = (([] : List (S26))) := ⟨_, rfl⟩
  replace H : (if y161.length + l0.length < 2513169434916 then ((some (y161 ++ l0 : List (S26))).bind fun y164 => (if 0 ≤ a1 then (if a1 < (y164.length : Int) then (some (y164.set (a1 : Int).toNat (⟨(rd_T26 y164 a1).f0, (rd_T26 y164 a1).f1, (rd_T26 y164 a1).f2, (rd_T26 y164 a1).f3, (rd_T26 y164 a1).f4, a2⟩ : S26))) else (none)) else (none))) else (none)) = some r := by first | (rw [hy161]; with_reducible exact H) | (have H2_ := (Option.bind_some _ _).symm.trans H; rw [hy161]; with_reducible exact H2_) | (have H2_ := (Option.bind_some _ _).symm.trans H; with_reducible exact H2_) | with_reducible exact H | (rw [hy161]; exact H) | exact H
  have Ny161 := Aside0.mk hy161
  clear hy161
  by_cases c4 : y161.length + l0.length < 2513169434916
  · rw [if_pos c4] at H
    have LMc4 := Aside0.mk c4
    clear c4
    obtain ⟨y164, hy164⟩ : ∃ y_ : List (S26), y_ = (y161 ++ l0) := ⟨_, rfl⟩
    replace H : (if 0 ≤ a1 then (if a1 < (y164.length : Int) then (some (y164.set (a1 : Int).toNat (⟨(rd_T26 y164 a1).f0, (rd_T26 y164 a1).f1, (rd_T26 y164 a1).f2, (rd_T26 y164 a1).f3, (rd_T26 y164 a1).f4, a2⟩ : S26))) else (none)) else (none)) = some r := by first | (rw [hy164]; with_reducible exact H) | (have H2_ := (Option.bind_some _ _).symm.trans H; rw [hy164]; with_reducible exact H2_) | (have H2_ := (Option.bind_some _ _).symm.trans H; with_reducible exact H2_) | with_reducible exact H | (rw [hy164]; exact H) | exact H
    have Ny164 := Aside0.mk hy164
    clear hy164
    by_cases c5 : 0 ≤ a1
    · rw [if_pos c5] at H
      have c5b0 : decide (0 ≤ a1) = true := decide_eq_true c5
      clear c5
      by_cases c6 : a1 < (y164.length : Int)
      · rw [if_pos c6] at H
        have c6b0 : decide (a1 < (y164.length : Int)) = true := decide_eq_true c6
        clear c6
        obtain ⟨y169, hy169⟩ : ∃ y_ : List (S26), y_ = (y164.set (a1 : Int).toNat (⟨(rd_T26 y164 a1).f0, (rd_T26 y164 a1).f1, (rd_T26 y164 a1).f2, (rd_T26 y164 a1).f3, (rd_T26 y164 a1).f4, a2⟩ : S26)) := ⟨_, rfl⟩
        replace H : (some y169) = some r := by first | (rw [hy169]; with_reducible exact H) | (have H2_ := (Option.bind_some _ _).symm.trans H; rw [hy169]; with_reducible exact H2_) | (have H2_ := (Option.bind_some _ _).symm.trans H; with_reducible exact H2_) | with_reducible exact H | (rw [hy169]; exact H) | exact H
        have Ny169 := Aside0.mk hy169
        clear hy169
        obtain rfl := Option.some.inj H
        go_enter Tryd.func71, Tryd.ntmps71
        go_wp2_with (first | ((with_reducible refine gate_dst (N := 9) rfl ?_); refine Kd.R_lit k26 _ 26 ?hg (N := 9) ?hd (xs := ([] : List (S26))) (inner := []) (ok := fun _ => True) (okp := fun _ => True) ?hr ?hp (fun _ hk => hk) trivial (Below.refl _ _) (Nat.le_refl _) (by simp) ?_; (case hd => rfl); (case hg => rfl); (case hr => first | (go_simp; done) | (go_simp; rfl)); (case hp => exact (Reps.none _ _)); intro v162 w8 ho9 hb hg_ hnew_; clear hg_ hnew_; (first | rw [← Ny161.out] at ho9 | (simp only [Int.reduceToNat] at ho9; rw [← Ny161.out] at ho9)); have n0_ := Aside0.mk (Kd.R_lower ho9 (below_size (upB HB.out))); have n1_ := Aside0.mk (below_step (upB HB.out) hb); clear HB; have HO163 := n0_; have HB := n1_; clear n0_ n1_; clear hb ho9) | ((with_reducible refine gate_builtin (b := .append) (xs := #[.tmp 9, .tmp 10]) rfl ?_); at_builtin; refine Kd.R_append_rows k26 (w0 := w) w.heap.size rfl (.tmp 9) (.tmp 10) 32 26 (.agg #[(.int .i64 0), (.string ⟨#[]⟩), (.int .i64 0), (.int .i64 0), (.int .i64 0), (.int .i64 0)]) 56 rfl Tryd.underlying32 info26 rfl (by decide) (by omega) v162 y161 l0 _ _ _ (fun _ => True) (fun _ => False) rfl rfl ?aO ?aR (fun _ _ h => h) (fun _ h => h.elim) ?aF ?aB ?aS ?aL ?_; (case aR => repeat (first | exact (Kd.C_below HR0.out HB.out) | (with_reducible refine Kd.C_alloc ?_ _) | (with_reducible refine Kd.C_drewN ?_ _) | (with_reducible refine Kd.C_drew ?_))); (case aB => exact (upB HB.out)); (case aF => exact (fun _ _ => trivial)); (case aO => exact (upR HO163.out)); (case aS => exact (below_size (upB HB.out))); (case aL => have := LMc4.out; omega); intro v165 w10 ho hb hg hat; rw [← Ny164.out] at ho; have n0_ := Aside0.mk (hb); have n1_ := Aside0.mk (ho); clear HB; clear HO163; have HB := n0_; have HO166 := n1_; clear n0_ n1_; clear ho hb hg hat; obtain ⟨Ao11, co11, eo11⟩ := Kd.R_slice HO166.out; subst eo11; have p167 : 0 ≤ (a1 : Int) := of_decide_eq_true asmB; have q167 : a1 < (y164.length : Int) := of_decide_eq_true asmB; obtain ⟨ad167, e167, hx167_0, hx167_1, hx167_2, hx167_3, hx167_4, hx167_5⟩ := at_T26 (Kd.R_reads' HO166.out).2.2 a1 p167 q167; cases e167; replace p167 := eq_true p167; replace q167 := eq_true q167) | ((with_reducible refine gate_dst (N := 8) rfl ?_); refine box_event ?hg (N := 8) ?hd (cs := #[.int .i64 0, .string (⟨#[]⟩ : ByteArray), .int .i64 0, .int .i64 0, .int .i64 0, .int .i64 0]) (t := 26) ?hr ?_; (case hd => rfl); (case hg => rfl); (case hr => first | (go_simp; done) | (go_simp; rfl)); intro gb168 hg w12 hbox hb; have n0_ := Aside0.mk (Kd.R_below (Kd.R_elderB (upR HO166.out) gb168 (Nat.le_of_eq hg.symm)) hb); have n1_ := Aside0.mk (below_step (upB HB.out) hb); have n2_ := Aside0.mk (hbox); have n3_ := Aside0.mk ((by rw [hg]; exact (below_size (upB HB.out)) : w.heap.size ≤ gb168)); have n4_ := Aside0.mk ((by rw [hg]; exact (below_size (upB HB.out)) : w.heap.size ≤ gb168)); clear HO166; clear HB; have HO166 := n0_; have HB := n1_; have BK168 := n2_; have GW168 := n3_; have GE168 := n4_; clear n0_ n1_ n2_ n3_ n4_; clear hb hbox hg; have hcz13_0 := ci BK168.out 0 0 rfl; have hcz13_1 : w12.cell? ⟨gb168, 1, none⟩ = some (.string (⟨#[]⟩ : ByteArray)) := (blk_cell BK168.out 1).trans rfl; have hcz13_2 := ci BK168.out 2 0 rfl; have hcz13_3 := ci BK168.out 3 0 rfl; have hcz13_4 := ci BK168.out 4 0 rfl; have hcz13_5 := ci BK168.out 5 0 rfl; have hfz13_0 := fun j_ : Nat => blk_frozen BK168.out j_) | ((with_reducible refine gate_store (t := 26) (p := 8) rfl ?_); refine store_event (t := 26) (p := 8) (v := ?vo_w14) (w1 := ((((((w12.setCell ⟨gb168, 0, none⟩ (.int .i64 ((rd_T26 y164 a1).f0))).setCell ⟨gb168, 1, none⟩ (.string ((rd_T26 y164 a1).f1))).setCell ⟨gb168, 2, none⟩ (.int .i64 ((rd_T26 y164 a1).f2))).setCell ⟨gb168, 3, none⟩ (.int .i64 ((rd_T26 y164 a1).f3))).setCell ⟨gb168, 4, none⟩ (.int .i64 ((rd_T26 y164 a1).f4))).setCell ⟨gb168, 5, none⟩ (.int .i64 ((rd_T26 y164 a1).f5)))) ?hg ?ho ?hn ?hr ?_; (case ho => rfl); (case hg => rfl); (case hn => rfl); (case hr => first | (go_simp; done) | (go_simp; rfl)); intro w14 hw; have n0_ : Aside0 (Kd.R k26 26 w14 w.heap.size (fun k_ => k_ ≠ gb168) (.slice (some ad167) y164.length co11) y164) := ⟨(by rw [hw]; exact (by (with_reducible repeat (first | apply Kd.R_alloc | apply Kd.R_drewN | apply Kd.R_drew)); exact Kd.R_mono (Kd.R_far (p := ⟨gb168, 5, none⟩) (Kd.R_far (p := ⟨gb168, 4, none⟩) (Kd.R_far (p := ⟨gb168, 3, none⟩) (Kd.R_far (p := ⟨gb168, 2, none⟩) (Kd.R_far (p := ⟨gb168, 1, none⟩) (Kd.R_far (p := ⟨gb168, 0, none⟩) (Kd.R_mono HO166.out (fun k_ hk => (⟨hk, hk.2⟩ : _ ∧ k_ ≠ gb168))) (fun _ hk => hk.2) (.int .i64 ((rd_T26 y164 a1).f0))) (fun _ hk => hk.2) (.string ((rd_T26 y164 a1).f1))) (fun _ hk => hk.2) (.int .i64 ((rd_T26 y164 a1).f2))) (fun _ hk => hk.2) (.int .i64 ((rd_T26 y164 a1).f3))) (fun _ hk => hk.2) (.int .i64 ((rd_T26 y164 a1).f4))) (fun _ hk => hk.2) (.int .i64 ((rd_T26 y164 a1).f5))) (fun _ hk => hk.1.2)))⟩; have n1_ : Aside0 (w14.heap[gb168]? = some (.cells #[.int .i64 ((rd_T26 y164 a1).f0), .string ((rd_T26 y164 a1).f1), .int .i64 ((rd_T26 y164 a1).f2), .int .i64 ((rd_T26 y164 a1).f3), .int .i64 ((rd_T26 y164 a1).f4), .int .i64 ((rd_T26 y164 a1).f5)] 26 (0, 0))) := ⟨(by rw [hw]; exact (by (with_reducible repeat (first | refine blk_drewN ?_ _ | refine blk_drew ?_ | refine blk_alloc ?_ _)); refine blk_put (cs := #[.int .i64 ((rd_T26 y164 a1).f0), .string ((rd_T26 y164 a1).f1), .int .i64 ((rd_T26 y164 a1).f2), .int .i64 ((rd_T26 y164 a1).f3), .int .i64 ((rd_T26 y164 a1).f4), .int .i64 0]) ?_ 5 _ rfl; (with_reducible repeat (first | refine blk_drewN ?_ _ | refine blk_drew ?_ | refine blk_alloc ?_ _)); refine blk_put (cs := #[.int .i64 ((rd_T26 y164 a1).f0), .string ((rd_T26 y164 a1).f1), .int .i64 ((rd_T26 y164 a1).f2), .int .i64 ((rd_T26 y164 a1).f3), .int .i64 0, .int .i64 0]) ?_ 4 _ rfl; (with_reducible repeat (first | refine blk_drewN ?_ _ | refine blk_drew ?_ | refine blk_alloc ?_ _)); refine blk_put (cs := #[.int .i64 ((rd_T26 y164 a1).f0), .string ((rd_T26 y164 a1).f1), .int .i64 ((rd_T26 y164 a1).f2), .int .i64 0, .int .i64 0, .int .i64 0]) ?_ 3 _ rfl; (with_reducible repeat (first | refine blk_drewN ?_ _ | refine blk_drew ?_ | refine blk_alloc ?_ _)); refine blk_put (cs := #[.int .i64 ((rd_T26 y164 a1).f0), .string ((rd_T26 y164 a1).f1), .int .i64 0, .int .i64 0, .int .i64 0, .int .i64 0]) ?_ 2 _ rfl; (with_reducible repeat (first | refine blk_drewN ?_ _ | refine blk_drew ?_ | refine blk_alloc ?_ _)); refine blk_put (cs := #[.int .i64 ((rd_T26 y164 a1).f0), .string (⟨#[]⟩ : ByteArray), .int .i64 0, .int .i64 0, .int .i64 0, .int .i64 0]) ?_ 1 _ rfl; (with_reducible repeat (first | refine blk_drewN ?_ _ | refine blk_drew ?_ | refine blk_alloc ?_ _)); refine blk_put (cs := #[.int .i64 0, .string (⟨#[]⟩ : ByteArray), .int .i64 0, .int .i64 0, .int .i64 0, .int .i64 0]) ?_ 0 _ rfl; (with_reducible repeat (first | refine blk_drewN ?_ _ | refine blk_drew ?_ | refine blk_alloc ?_ _)); exact BK168.out))⟩; have n2_ : Aside0 (Below w.heap.size w w14) := ⟨(by rw [hw]; exact (upB1 HB.out GE168.out))⟩; clear hw; clear HO166; clear BK168; clear HB; have HO166 := n0_; have BK168 := n1_; have HB := n2_; clear n0_ n1_ n2_; have hcz15_0 := ci BK168.out 0 ((rd_T26 y164 a1).f0) rfl; have hcz15_1 : w14.cell? ⟨gb168, 1, none⟩ = some (.string ((rd_T26 y164 a1).f1)) := (blk_cell BK168.out 1).trans rfl; have hcz15_2 := ci BK168.out 2 ((rd_T26 y164 a1).f2) rfl; have hcz15_3 := ci BK168.out 3 ((rd_T26 y164 a1).f3) rfl; have hcz15_4 := ci BK168.out 4 ((rd_T26 y164 a1).f4) rfl; have hcz15_5 := ci BK168.out 5 ((rd_T26 y164 a1).f5) rfl; have hfz15_0 := fun j_ : Nat => blk_frozen BK168.out j_) | ((with_reducible refine gate_store (t := 3) (p := 17) rfl ?_); refine store_event (t := 3) (p := 17) (v := ?vo_w16) (w1 := (w14.setCell ⟨gb168, 5, none⟩ (.int .i64 a2))) ?hg ?ho ?hn ?hr ?_; (case ho => rfl); (case hg => rfl); (case hn => rfl); (case hr => first | (go_simp; done) | (go_simp; rfl)); intro w16 hw; have n0_ : Aside0 (Kd.R k26 26 w16 w.heap.size (fun k_ => k_ ≠ gb168) (.slice (some ad167) y164.length co11) y164) := ⟨(by rw [hw]; exact (by (with_reducible repeat (first | apply Kd.R_alloc | apply Kd.R_drewN | apply Kd.R_drew)); exact Kd.R_mono (Kd.R_far (p := ⟨gb168, 5, none⟩) (Kd.R_mono HO166.out (fun k_ hk => (⟨hk, hk⟩ : _ ∧ k_ ≠ gb168))) (fun _ hk => hk.2) (.int .i64 a2)) (fun _ hk => hk.1)))⟩; have n1_ : Aside0 (w16.heap[gb168]? = some (.cells #[.int .i64 ((rd_T26 y164 a1).f0), .string ((rd_T26 y164 a1).f1), .int .i64 ((rd_T26 y164 a1).f2), .int .i64 ((rd_T26 y164 a1).f3), .int .i64 ((rd_T26 y164 a1).f4), .int .i64 a2] 26 (0, 0))) := ⟨(by rw [hw]; exact (by (with_reducible repeat (first | refine blk_drewN ?_ _ | refine blk_drew ?_ | refine blk_alloc ?_ _)); refine blk_put (cs := #[.int .i64 ((rd_T26 y164 a1).f0), .string ((rd_T26 y164 a1).f1), .int .i64 ((rd_T26 y164 a1).f2), .int .i64 ((rd_T26 y164 a1).f3), .int .i64 ((rd_T26 y164 a1).f4), .int .i64 ((rd_T26 y164 a1).f5)]) ?_ 5 _ rfl; (with_reducible repeat (first | refine blk_drewN ?_ _ | refine blk_drew ?_ | refine blk_alloc ?_ _)); exact BK168.out))⟩; have n2_ : Aside0 (Below w.heap.size w w16) := ⟨(by rw [hw]; exact (upB1 HB.out GE168.out))⟩; clear hw; clear HO166; clear BK168; clear HB; have HO166 := n0_; have BK168 := n1_; have HB := n2_; clear n0_ n1_ n2_; have hcz17_0 := ci BK168.out 0 ((rd_T26 y164 a1).f0) rfl; have hcz17_1 : w16.cell? ⟨gb168, 1, none⟩ = some (.string ((rd_T26 y164 a1).f1)) := (blk_cell BK168.out 1).trans rfl; have hcz17_2 := ci BK168.out 2 ((rd_T26 y164 a1).f2) rfl; have hcz17_3 := ci BK168.out 3 ((rd_T26 y164 a1).f3) rfl; have hcz17_4 := ci BK168.out 4 ((rd_T26 y164 a1).f4) rfl; have hcz17_5 := ci BK168.out 5 a2 rfl; have hfz17_0 := fun j_ : Nat => blk_frozen BK168.out j_; have p7 : 0 ≤ (a1 : Int) := of_decide_eq_true asmB; have q7 : (a1 : Int) < ((y164.length : Int) : Int) := of_decide_eq_true asmB; obtain ⟨go7, co7, eo7, gb7, gl7, cl7, HG7⟩ := Kd.R_form HO166.out (by omega); (first | cases eo7 | (injection eo7 with ea_ en_ ec_; (first | subst ea_ | (injection ea_ with ea_; subst ea_)); subst ec_; clear en_)); have GB7 := Aside0.mk gb7; have GG7 := Aside0.mk HG7; clear gb7 gl7 HG7; (first | simp only [add_plain] at hx167_0 | skip); (first | simp only [add_plain] at hx167_1 | skip); (first | simp only [add_plain] at hx167_2 | skip); (first | simp only [add_plain] at hx167_3 | skip); (first | simp only [add_plain] at hx167_4 | skip); (first | simp only [add_plain] at hx167_5 | skip); obtain ⟨ce7, hcl7, hM7, hcc7, hfr7⟩ := Kd.R_elem HO166.out z26 (a1 : Int) p7 q7; obtain rfl := k26_openM hM7; have hx7_0 : w16.cell? ⟨go7, (a1 : Int).toNat * 6, none⟩ = some (.int .i64 ((rd_T26 y164 a1).f0)) := hcc7 0 _ rfl; have hx7_1 : w16.cell? ⟨go7, (a1 : Int).toNat * 6 + 1, none⟩ = some (.string ((rd_T26 y164 a1).f1)) := hcc7 1 _ rfl; have hx7_2 : w16.cell? ⟨go7, (a1 : Int).toNat * 6 + 2, none⟩ = some (.int .i64 ((rd_T26 y164 a1).f2)) := hcc7 2 _ rfl; have hx7_3 : w16.cell? ⟨go7, (a1 : Int).toNat * 6 + 3, none⟩ = some (.int .i64 ((rd_T26 y164 a1).f3)) := hcc7 3 _ rfl; have hx7_4 : w16.cell? ⟨go7, (a1 : Int).toNat * 6 + 4, none⟩ = some (.int .i64 ((rd_T26 y164 a1).f4)) := hcc7 4 _ rfl; have hx7_5 : w16.cell? ⟨go7, (a1 : Int).toNat * 6 + 5, none⟩ = some (.int .i64 ((rd_T26 y164 a1).f5)) := hcc7 5 _ rfl; have hf7_0 : w16.frozen? ⟨go7, (a1 : Int).toNat * 6, none⟩ = false := hfr7 0; have hf7_1 : w16.frozen? ⟨go7, (a1 : Int).toNat * 6 + 1, none⟩ = false := hfr7 1; have hf7_2 : w16.frozen? ⟨go7, (a1 : Int).toNat * 6 + 2, none⟩ = false := hfr7 2; have hf7_3 : w16.frozen? ⟨go7, (a1 : Int).toNat * 6 + 3, none⟩ = false := hfr7 3; have hf7_4 : w16.frozen? ⟨go7, (a1 : Int).toNat * 6 + 4, none⟩ = false := hfr7 4; have hf7_5 : w16.frozen? ⟨go7, (a1 : Int).toNat * 6 + 5, none⟩ = false := hfr7 5; clear hcl7 hcc7 hfr7 hM7; replace p7 := eq_true p7; replace q7 := eq_true q7; have HX18 := Aside0.mk (show Kd.R k26 26 w16 w.heap.size (fun k_ => k_ ≠ gb168) (.slice (some ⟨go7, 0, none⟩) y164.length co11) y164 from (upR HO166.out)); obtain ⟨ce18, hcl18, hM18, hcc18, hfr18⟩ := Kd.R_elem HX18.out z26 (a1 : Int) (of_decide_eq_true asmB) (by have h_ : (a1 : Int) < ((y164.length : Int) : Int) := of_decide_eq_true asmB; first | exact h_ | (have e_ := (Kd.R_reads' HO166.out).1; omega) | simpa using h_); obtain rfl := k26_openM hM18; have HP18 := Kd.R_seg HX18.out (a1 : Int) (of_decide_eq_true asmB) (by have h_ : (a1 : Int) < ((y164.length : Int) : Int) := of_decide_eq_true asmB; first | exact h_ | (have e_ := (Kd.R_reads' HO166.out).1; omega) | simpa using h_) (seg := [.int .i64 ((rd_T26 y164 a1).f0), .string ((rd_T26 y164 a1).f1), .int .i64 ((rd_T26 y164 a1).f2), .int .i64 ((rd_T26 y164 a1).f3), .int .i64 ((rd_T26 y164 a1).f4), .int .i64 a2]) (j := 0) hcl18 hcc18 (show 6 ≤ 6 from by decide) (x' := (⟨(rd_T26 y164 a1).f0, (rd_T26 y164 a1).f1, (rd_T26 y164 a1).f2, (rd_T26 y164 a1).f3, (rd_T26 y164 a1).f4, a2⟩ : S26)) (k26_mkM _ _ _ (⟨(rd_T26 y164 a1).f0, (rd_T26 y164 a1).f1, (rd_T26 y164 a1).f2, (rd_T26 y164 a1).f3, (rd_T26 y164 a1).f4, a2⟩ : S26) ) (fun _ hk => hk); have hx18_0 := hcc18 0 _ rfl; (try simp only [show (k26).sz = 6 from rfl, Nat.mul_one, Nat.add_zero] at hx18_0); have hf18_0 := hfr18 0; (try simp only [show (k26).sz = 6 from rfl, Nat.mul_one, Nat.add_zero] at hf18_0); have hx18_1 := hcc18 1 _ rfl; (try simp only [show (k26).sz = 6 from rfl, Nat.mul_one, Nat.add_zero] at hx18_1); have hf18_1 := hfr18 1; (try simp only [show (k26).sz = 6 from rfl, Nat.mul_one, Nat.add_zero] at hf18_1); have hx18_2 := hcc18 2 _ rfl; (try simp only [show (k26).sz = 6 from rfl, Nat.mul_one, Nat.add_zero] at hx18_2); have hf18_2 := hfr18 2; (try simp only [show (k26).sz = 6 from rfl, Nat.mul_one, Nat.add_zero] at hf18_2); have hx18_3 := hcc18 3 _ rfl; (try simp only [show (k26).sz = 6 from rfl, Nat.mul_one, Nat.add_zero] at hx18_3); have hf18_3 := hfr18 3; (try simp only [show (k26).sz = 6 from rfl, Nat.mul_one, Nat.add_zero] at hf18_3); have hx18_4 := hcc18 4 _ rfl; (try simp only [show (k26).sz = 6 from rfl, Nat.mul_one, Nat.add_zero] at hx18_4); have hf18_4 := hfr18 4; (try simp only [show (k26).sz = 6 from rfl, Nat.mul_one, Nat.add_zero] at hf18_4); have hx18_5 := hcc18 5 _ rfl; (try simp only [show (k26).sz = 6 from rfl, Nat.mul_one, Nat.add_zero] at hx18_5); have hf18_5 := hfr18 5; (try simp only [show (k26).sz = 6 from rfl, Nat.mul_one, Nat.add_zero] at hf18_5); clear hcl18 hcc18 hfr18 hM18) | ((with_reducible refine gate_store (t := 26) (p := 21) rfl ?_); refine store_event (t := 26) (p := 21) (v := ?vo_w19) (w1 := ((((((w16.setCell ⟨go7, (a1 : Int).toNat * 6, none⟩ (.int .i64 ((rd_T26 y164 a1).f0))).setCell ⟨go7, (a1 : Int).toNat * 6 + 1, none⟩ (.string ((rd_T26 y164 a1).f1))).setCell ⟨go7, (a1 : Int).toNat * 6 + 2, none⟩ (.int .i64 ((rd_T26 y164 a1).f2))).setCell ⟨go7, (a1 : Int).toNat * 6 + 3, none⟩ (.int .i64 ((rd_T26 y164 a1).f3))).setCell ⟨go7, (a1 : Int).toNat * 6 + 4, none⟩ (.int .i64 ((rd_T26 y164 a1).f4))).setCell ⟨go7, (a1 : Int).toNat * 6 + 5, none⟩ (.int .i64 a2))) ?hg ?ho ?hn ?hr ?_; (case ho => rfl); (case hg => rfl); (case hn => rfl); (case hr => first | (go_simp; done) | (go_simp; rfl)); intro w19 hw; have hg : w16.grownBy w19 (some go7) := (by rw [hw]; exact HP18.2); have hp_ : Kd.R k26 26 w19 w.heap.size (fun k_ => k_ ≠ gb168) (.slice (some ⟨go7, 0, none⟩) y164.length co11) y169 := (by rw [hw, Ny169.out]; exact HP18.1); clear HP18; have n0_ := Aside0.mk (hp_); have n1_ := Aside0.mk (blk_grown (g := gb168) (o := .cells #[.int .i64 ((rd_T26 y164 a1).f0), .string ((rd_T26 y164 a1).f1), .int .i64 ((rd_T26 y164 a1).f2), .int .i64 ((rd_T26 y164 a1).f3), .int .i64 ((rd_T26 y164 a1).f4), .int .i64 a2] 26 (0, 0)) (upK BK168.out) hg (Kd.R_away HO166.out (fun _ hk => hk))); have n2_ := Aside0.mk ((by rw [hw]; exact below_set (below_set (below_set (below_set (below_set (below_set (HB.out) GB7.out) GB7.out) GB7.out) GB7.out) GB7.out) GB7.out : Below w.heap.size w w19)); clear HO166; clear BK168; clear HB; have HO166 := n0_; have BK168 := n1_; have HB := n2_; clear n0_ n1_ n2_; clear hg hw hp_))
        go_ret
        exact ⟨_, by first | rfl | (simp [errW_none, errW_some] <;> rfl) | (simp [*, errW_none, errW_some] <;> rfl), by (with_reducible repeat (first | apply Kd.R_alloc | apply Kd.R_drewN | apply Kd.R_drew)); exact Kd.R_mono HO166.out (fun _ hk => trivial), (upB1 HB.out GE168.out)⟩
      · rw [if_neg c6] at H
        exact absurd H (by simp)
    · rw [if_neg c5] at H
      exact absurd H (by simp)
  · rw [if_neg c4] at H
    exact absurd H (by simp)

/-! ### spec_l22Find: function 73 -/
def spec_l22Find.l0 : Nat → List (S26) → Int → Int → Option (Int)
  | 0, _, _, _ => none
  | k + 1, x0, x1, x5 => if x5 < (x0.length : Int) then (if 0 ≤ x5 then (if ((rd_T26 x0 x5).f0) = x1 then (some x5) else (spec_l22Find.l0 k x0 x1 (wrap64 (x5 + 1)))) else (none)) else (some (-1))
def spec_l22Find.f (k : Nat) (l0 : List (S26)) (a1 : Int) : Option (Int) := spec_l22Find.l0 k l0 a1 0
theorem spec_l22Find.mono_l : ∀ k, (∀ y0 y1 y2, LeO (spec_l22Find.l0 k y0 y1 y2) (spec_l22Find.l0 (k + 1) y0 y1 y2))
  | 0 => fun _ _ _ r h => by simp [spec_l22Find.l0] at h
  | k + 1 => by
    have ih0 := spec_l22Find.mono_l k
    · intro y0 y1 y2
      unfold spec_l22Find.l0
      repeat' first
      | (with_reducible exact ih0 _ _ _)
      | (with_reducible exact LeO.refl _)
      | (with_reducible exact LeO.none _)
      | (with_reducible refine LeO.ite ?_ ?_)
      | (with_reducible refine LeO.bind ?_ (fun _ => ?_))
      | exact ih0 _ _ _
      | exact LeO.none _
      | refine LeO.ite ?_ ?_
      | refine LeO.bind ?_ (fun _ => ?_)
theorem spec_l22Find.mono : ∀ a0 a1 k, LeO (spec_l22Find.f k a0 a1) (spec_l22Find.f (k + 1) a0 a1) := by
  intro a0 a1 k
  have ih0 := spec_l22Find.mono_l k
  unfold spec_l22Find.f
  repeat' first
      | (with_reducible exact ih0 _ _ _)
      | (with_reducible exact LeO.refl _)
      | (with_reducible exact LeO.none _)
      | (with_reducible refine LeO.ite ?_ ?_)
      | (with_reducible refine LeO.bind ?_ (fun _ => ?_))
      | exact ih0 _ _ _
      | exact LeO.none _
      | refine LeO.ite ?_ ?_
      | refine LeO.bind ?_ (fun _ => ?_)
set_option maxHeartbeats 8000000 in
set_option maxRecDepth 100000 in
theorem spec_l22Find.calls (k : Nat) (A0 : Option Addr) (c0 : Nat) (l0 : List (S26)) (a1 : Int) (r : Int) (w : World) (hr0 : Kd.C k26 w A0 l0.length l0) (hc0 : l0.length ≤ c0) (h : spec_l22Find.f k l0 a1 = some r) :
    Calls Tryd.prog 73 #[.slice A0 l0.length c0, .int .i64 a1] w fun e w' => e = .returned (.int .i64 r) ∧ Drawn0 w w' := by
  have HR0 := Aside0.mk hr0
  have HC0 := Aside0.mk hc0
  clear hr0 hc0
  have H : (spec_l22Find.l0 k l0 a1 0) = some r := h
  clear h
  have H' := Aside0.mk H
  clear H
  go_enter Tryd.func73, Tryd.ntmps73
  go_wp2
  go_loopg [5] k (fun kq v5 w' => ∃ (x5_1 : Int), v5 = .int .i64 x5_1 ∧ Aside0 (spec_l22Find.l0 kq l0 a1 x5_1 = some r) ∧ Aside0 (kq ≤ k) ∧ Drawn0 w w')
  case atStart => exact ⟨(0), (by first | rfl | (simp; done) | (simp [*]; done)), H', ⟨Nat.le_refl _⟩, by repeat (first | exact Drawn0.refl _ | apply Drawn0.step)⟩
  case round =>
    clear H'
    obtain ⟨x5_1, rfl, HA, HK1, ⟨m1, rfl⟩⟩ := hrel
    cases gk with
    | zero => exact absurd HA.out (by simp [spec_l22Find.l0])
    | succ k1 =>
      have H := HA.out
      clear HA
      simp only [spec_l22Find.l0] at H
      by_cases c3 : x5_1 < (l0.length : Int)
      · rw [if_pos c3] at H
        have c3b0 : decide (x5_1 < (l0.length : Int)) = true := decide_eq_true c3
        clear c3
        by_cases c4 : 0 ≤ x5_1
        · rw [if_pos c4] at H
          have c4b0 : decide (0 ≤ x5_1) = true := decide_eq_true c4
          clear c4
          by_cases c5 : ((rd_T26 l0 x5_1).f0) = a1
          · rw [if_pos c5] at H
            have c5b0 : (((rd_T26 l0 x5_1).f0) == a1) = true := beq_iff_eq.mpr c5
            have c5b1 : (((rd_T26 l0 x5_1).f0) != a1) = false := bne_eq_false_iff_eq.mpr c5
            clear c5
            obtain rfl := Option.some.inj H
            have p170 : 0 ≤ (x5_1 : Int) := of_decide_eq_true asmB
            have q170 : x5_1 < (l0.length : Int) := of_decide_eq_true asmB
            obtain ⟨ad170, e170, hx170_0, hx170_1, hx170_2, hx170_3, hx170_4, hx170_5⟩ := at_T26 HR0.out x5_1 p170 q170
            cases e170
            replace p170 := eq_true p170
            replace q170 := eq_true q170
            go_wp2
            go_ret
            exact ⟨by first | rfl | (simp; done) | (simp [*]; done), by repeat (first | exact Drawn0.refl _ | apply Drawn0.step)⟩
          · rw [if_neg c5] at H
            have c5b0 : (((rd_T26 l0 x5_1).f0) == a1) = false := beq_eq_false_iff_ne.mpr c5
            have c5b1 : (((rd_T26 l0 x5_1).f0) != a1) = true := bne_iff_ne.mpr c5
            have H' := Aside0.mk H
            clear H
            have p170 : 0 ≤ (x5_1 : Int) := of_decide_eq_true asmB
            have q170 : x5_1 < (l0.length : Int) := of_decide_eq_true asmB
            obtain ⟨ad170, e170, hx170_0, hx170_1, hx170_2, hx170_3, hx170_4, hx170_5⟩ := at_T26 HR0.out x5_1 p170 q170
            cases e170
            replace p170 := eq_true p170
            replace q170 := eq_true q170
            go_wp2
            go_roundg k1
            case measure => have := HK1.out; omega
            case rel => exact ⟨(wrap64 (x5_1 + 1)), (by first | rfl | (simp; done) | (simp [*]; done)), H', ⟨by have := HK1.out; omega⟩, by repeat (first | exact Drawn0.refl _ | apply Drawn0.step)⟩
        · rw [if_neg c4] at H
          exact absurd H (by simp)
      · rw [if_neg c3] at H
        have c3b0 : decide (x5_1 < (l0.length : Int)) = false := decide_eq_false c3
        clear c3
        obtain rfl := Option.some.inj H
        go_wp2
        go_ret
        exact ⟨by first | rfl | (simp; done) | (simp [*]; done), by repeat (first | exact Drawn0.refl _ | apply Drawn0.step)⟩

end Go.Proofs.YtgeioccfjgpijaaDoor.QFnExactUsePermit
