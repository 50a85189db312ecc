/- Contracts of Go functions that FnExactLeadText reaches: the call computes what the plain function says. No condition. -/
import Derived.Test.YtldgjibimolcdaaDoorQFnExactLeadTextx0
import Derived.Test.YtldgjibimolcdaaDoorQFnExactLeadTextx2
namespace Go.Proofs.YtldgjibimolcdaaDoor.QFnExactLeadText
open Go.RowKit Go.Proofs.YtldgjibimolcdaaDoorW.PrintWords Go.Proofs.YtldgjibimolcdaaDoorW.PrintLast Go.Proofs.YtldgjibimolcdaaDoorW.PrintMore
attribute [local go_sem] max2_int min2_int max_two min_two max_three min_three max_four min_four   -- for this text's walks alone
set_option linter.unusedVariables false
set_option linter.unusedSimpArgs false

/-! ### impl_decimal: function 49 -/
-- calls: none
def stWords : List ByteArray := [(⟨#[111, 112, 101, 110]⟩ : ByteArray), (⟨#[116, 97, 107, 101, 110]⟩ : ByteArray), (⟨#[100, 111, 110, 101]⟩ : ByteArray), (⟨#[101, 110, 100, 101, 100]⟩ : ByteArray)]
def stW (i : Int) : ByteArray := stWords.getD i.toNat ByteArray.empty
/-- What the row's condition tells of two of the package's variables. -/
def TabW (w : World) : Prop := Lib.TabIs Tryd.prog w "internal/strconv.uint64pow10" .u64 Lib.pow10Tab ∧ ∀ i : Nat, i < 4 → w.cell? ⟨0, i, none⟩ = some (.string (stWords.getD i ByteArray.empty))
theorem tabW_below {n : String} {g : Nat} {k : IntKind} {zs : List Int} {w w' : World} (hg : Tryd.prog.globalNamed n = some g) (h : Lib.TabIs Tryd.prog w n k zs) (hb : Below w.heap.size w w') : Lib.TabIs Tryd.prog w' n k zs := by
  unfold Lib.TabIs World.var? at h ⊢
  rw [hg] at h ⊢
  simp only [Option.bind_some] at h ⊢
  split at h
  · rename_i cs t hh e
    rw [blk_below e hb]
    exact h
  · cases h
theorem TabW.up {w W : World} (hB : Aside0 (Below w.heap.size w W)) (h : TabW w) : TabW W :=
  ⟨tabW_below (g := 6) (by kernel_rfl) h.1 hB.out, fun i hi => (hB.out.cell (World.block_lt_of_cell? w _ (h.2 i hi))).trans (h.2 i hi)⟩
theorem TabW.up2 {w W0 W : World} (h : TabW w) (hB : Below w.heap.size w W0) (hh : Below w.heap.size w W0 → Below w.heap.size w W := by (intro h_; repeat (first | (with_reducible first | exact h_ | apply below_alloc | apply pw_below_drewN | apply below_drew1) | exact h_))) : TabW W := TabW.up ⟨hh hB⟩ h
theorem TabW.word {w W : World} (h : TabW w) (hB : Below w.heap.size w W) {i : Int} (h0 : 0 ≤ i) (h1 : i < 4) : W.cell? ⟨0, i.toNat, none⟩ = some (.string (stW i)) := (TabW.up ⟨hB⟩ h).2 i.toNat (by omega)
theorem guard_some {α : Type} {p : Prop} [Decidable p] {x : Option α} {r : α} (h : (if p then x else none) = some r) : p ∧ x = some r := by
  split at h
  · exact ⟨by assumption, h⟩
  · cases h

theorem below_grow_ (w : World) (k : Nat) (os : Array Obj) : Below w.heap.size w (Sort.grow (w.drewN k) os) := Lib.below_grow _ _ (Nat.le_refl _) k os
def impl_decimal.f (a0 : Int) : Option ByteArray := if -9223372036854775808 ≤ a0 ∧ a0 ≤ 9223372036854775807 then some ⟨(Lib.itoa a0).toArray⟩ else none
theorem impl_decimal.calls (a0 : Int) (r : ByteArray) (w : World) (h : impl_decimal.f a0 = some r) (hT : TabW w) :
    Calls Tryd.prog 49 #[.int .i64 a0] w fun e w' => e = .returned (.string r) ∧ Below w.heap.size w w' := by
  obtain ⟨⟨h0, h1⟩, h⟩ := guard_some h
  obtain rfl := Option.some.inj h
  have hcon := Any.strconv_Itoa Tryd.lays171 a0 h0 h1 w hT.1
  change Calls Tryd.prog 55 _ _ (fun e w' => e = .returned (.string ⟨(Lib.itoa a0).toArray⟩) ∧ ∃ k os, w' = Sort.grow (w.drewN k) os) at hcon
  clear h hT
  generalize (⟨(Lib.itoa a0).toArray⟩ : ByteArray) = r at hcon ⊢
  go_enter Tryd.func49, Tryd.ntmps49
  go_wp2_with (go_at_call 55; refine hcon.mono ?_; rintro e w1 ⟨rfl, nk, os, rfl⟩)
  go_ret
  exact ⟨rfl, below_grow_ w nk os⟩

/-! ### impl_leadText: function 26 -/
def impl_leadText.f (a0_0 : Int) (a0_1 : Int) (a0_2 : Int) (a0_3 : Int) (a0_4 : Int) : Option (ByteArray) := if 0 ≤ a0_4 ∧ a0_4 < 4 then ((impl_decimal.f a0_0).bind fun t137 => (if 5 + t137.size ≤ 9223372036854775807 then (if ((⟨#[108, 101, 97, 100, 32]⟩ : ByteArray) ++ t137).size + 4 ≤ 9223372036854775807 then ((impl_decimal.f a0_1).bind fun t138 => (if (((⟨#[108, 101, 97, 100, 32]⟩ : ByteArray) ++ t137) ++ (⟨#[32, 97, 116, 32]⟩ : ByteArray)).size + t138.size ≤ 9223372036854775807 then (if ((((⟨#[108, 101, 97, 100, 32]⟩ : ByteArray) ++ t137) ++ (⟨#[32, 97, 116, 32]⟩ : ByteArray)) ++ t138).size + 7 ≤ 9223372036854775807 then ((impl_decimal.f a0_2).bind fun t139 => (if (((((⟨#[108, 101, 97, 100, 32]⟩ : ByteArray) ++ t137) ++ (⟨#[32, 97, 116, 32]⟩ : ByteArray)) ++ t138) ++ (⟨#[58, 32, 115, 105, 122, 101, 32]⟩ : ByteArray)).size + t139.size ≤ 9223372036854775807 then (if ((((((⟨#[108, 101, 97, 100, 32]⟩ : ByteArray) ++ t137) ++ (⟨#[32, 97, 116, 32]⟩ : ByteArray)) ++ t138) ++ (⟨#[58, 32, 115, 105, 122, 101, 32]⟩ : ByteArray)) ++ t139).size + 6 ≤ 9223372036854775807 then ((impl_decimal.f a0_3).bind fun t140 => (if (((((((⟨#[108, 101, 97, 100, 32]⟩ : ByteArray) ++ t137) ++ (⟨#[32, 97, 116, 32]⟩ : ByteArray)) ++ t138) ++ (⟨#[58, 32, 115, 105, 122, 101, 32]⟩ : ByteArray)) ++ t139) ++ (⟨#[32, 101, 97, 115, 101, 32]⟩ : ByteArray)).size + t140.size ≤ 9223372036854775807 then (if ((((((((⟨#[108, 101, 97, 100, 32]⟩ : ByteArray) ++ t137) ++ (⟨#[32, 97, 116, 32]⟩ : ByteArray)) ++ t138) ++ (⟨#[58, 32, 115, 105, 122, 101, 32]⟩ : ByteArray)) ++ t139) ++ (⟨#[32, 101, 97, 115, 101, 32]⟩ : ByteArray)) ++ t140).size + 1 ≤ 9223372036854775807 then (if (((((((((⟨#[108, 101, 97, 100, 32]⟩ : ByteArray) ++ t137) ++ (⟨#[32, 97, 116, 32]⟩ : ByteArray)) ++ t138) ++ (⟨#[58, 32, 115, 105, 122, 101, 32]⟩ : ByteArray)) ++ t139) ++ (⟨#[32, 101, 97, 115, 101, 32]⟩ : ByteArray)) ++ t140) ++ (⟨#[32]⟩ : ByteArray)).size + (stW a0_4).size ≤ 9223372036854775807 then (some ((((((((((⟨#[108, 101, 97, 100, 32]⟩ : ByteArray) ++ t137) ++ (⟨#[32, 97, 116, 32]⟩ : ByteArray)) ++ t138) ++ (⟨#[58, 32, 115, 105, 122, 101, 32]⟩ : ByteArray)) ++ t139) ++ (⟨#[32, 101, 97, 115, 101, 32]⟩ : ByteArray)) ++ t140) ++ (⟨#[32]⟩ : ByteArray)) ++ (stW a0_4))) else (none)) else (none)) else (none))) else (none)) else (none))) else (none)) else (none))) else (none)) else (none))) else none
def impl_leadText.T1 : Bool × List (List Nat × List Nat) := (true, [([], []), ([0], [0]), ([1], [1]), ([2], [2]), ([3], [3]), ([], []), ([5], [5]), ([6, 2], [6]), ([4, 7], [4, 7]), ([8], [8]), ([], []), ([10], [10]), ([11, 7], [11]), ([9, 12], [9, 12]), ([13], [13]), ([], []), ([15], [15]), ([16, 12], [16]), ([14, 17], [14, 17]), ([18], [18]), ([], []), ([20], [20]), ([21], [21]), ([22], [22]), ([19, 23], [19, 23]), ([24, 17, 0, 1, 2, 3, 4, 5, 6, 7, 8, 9, 10, 11, 12, 13, 14, 15, 16, 17, 18, 19, 20, 21, 22, 23, 24], [24])])
def impl_leadText.B1 : List Nat := [0, 1, 3, 7, 15, 0, 32, 103, 255, 511, 0, 1024, 3303, 8191, 16383, 0, 32768, 105703, 262143, 524287, 0, 1048576, 3145728, 7340032, 16777215, 33554431]
theorem impl_leadText.tab1 : rtab .any (opsOf Tryd.f26 1) = impl_leadText.T1 := by kernel_rfl
theorem impl_leadText.bits1 : waitsOk impl_leadText.T1.2 impl_leadText.B1 = true := by kernel_rfl
set_option maxHeartbeats 8000000 in
set_option maxRecDepth 100000 in
theorem impl_leadText.calls (a0_0 : Int) (a0_1 : Int) (a0_2 : Int) (a0_3 : Int) (a0_4 : Int) (r : ByteArray) (w : World) (h : impl_leadText.f a0_0 a0_1 a0_2 a0_3 a0_4 = some r) (hTW : TabW w) :
    Calls Tryd.prog 26 #[.agg #[.int .i64 a0_0, .int .i64 a0_1, .int .i64 a0_2, .int .i64 a0_3, .int .i64 a0_4]] w fun e w' => e = .returned (.string r) ∧ Below w.heap.size w w' := by
  have hu26 := Tryd.underlying26
  have HB := Aside0.mk (Below.refl w.heap.size w)
  obtain ⟨⟨hg0_, hg1_⟩, h⟩ := guard_some h
  have pi_ : (0 ≤ a0_4) = True := eq_true hg0_
  have qi_ : (a0_4 < 4) = True := eq_true hg1_
  have H : ((impl_decimal.f a0_0).bind fun t137 => (if 5 + t137.size ≤ 9223372036854775807 then (if ((⟨#[108, 101, 97, 100, 32]⟩ : ByteArray) ++ t137).size + 4 ≤ 9223372036854775807 then ((impl_decimal.f a0_1).bind fun t138 => (if (((⟨#[108, 101, 97, 100, 32]⟩ : ByteArray) ++ t137) ++ (⟨#[32, 97, 116, 32]⟩ : ByteArray)).size + t138.size ≤ 9223372036854775807 then (if ((((⟨#[108, 101, 97, 100, 32]⟩ : ByteArray) ++ t137) ++ (⟨#[32, 97, 116, 32]⟩ : ByteArray)) ++ t138).size + 7 ≤ 9223372036854775807 then ((impl_decimal.f a0_2).bind fun t139 => (if (((((⟨#[108, 101, 97, 100, 32]⟩ : ByteArray) ++ t137) ++ (⟨#[32, 97, 116, 32]⟩ : ByteArray)) ++ t138) ++ (⟨#[58, 32, 115, 105, 122, 101, 32]⟩ : ByteArray)).size + t139.size ≤ 9223372036854775807 then (if ((((((⟨#[108, 101, 97, 100, 32]⟩ : ByteArray) ++ t137) ++ (⟨#[32, 97, 116, 32]⟩ : ByteArray)) ++ t138) ++ (⟨#[58, 32, 115, 105, 122, 101, 32]⟩ : ByteArray)) ++ t139).size + 6 ≤ 9223372036854775807 then ((impl_decimal.f a0_3).bind fun t140 => (if (((((((⟨#[108, 101, 97, 100, 32]⟩ : ByteArray) ++ t137) ++ (⟨#[32, 97, 116, 32]⟩ : ByteArray)) ++ t138) ++ (⟨#[58, 32, 115, 105, 122, 101, 32]⟩ : ByteArray)) ++ t139) ++ (⟨#[32, 101, 97, 115, 101, 32]⟩ : ByteArray)).size + t140.size ≤ 9223372036854775807 then (if ((((((((⟨#[108, 101, 97, 100, 32]⟩ : ByteArray) ++ t137) ++ (⟨#[32, 97, 116, 32]⟩ : ByteArray)) ++ t138) ++ (⟨#[58, 32, 115, 105, 122, 101, 32]⟩ : ByteArray)) ++ t139) ++ (⟨#[32, 101, 97, 115, 101, 32]⟩ : ByteArray)) ++ t140).size + 1 ≤ 9223372036854775807 then (if (((((((((⟨#[108, 101, 97, 100, 32]⟩ : ByteArray) ++ t137) ++ (⟨#[32, 97, 116, 32]⟩ : ByteArray)) ++ t138) ++ (⟨#[58, 32, 115, 105, 122, 101, 32]⟩ : ByteArray)) ++ t139) ++ (⟨#[32, 101, 97, 115, 101, 32]⟩ : ByteArray)) ++ t140) ++ (⟨#[32]⟩ : ByteArray)).size + (stW a0_4).size ≤ 9223372036854775807 then (some ((((((((((⟨#[108, 101, 97, 100, 32]⟩ : ByteArray) ++ t137) ++ (⟨#[32, 97, 116, 32]⟩ : ByteArray)) ++ t138) ++ (⟨#[58, 32, 115, 105, 122, 101, 32]⟩ : ByteArray)) ++ t139) ++ (⟨#[32, 101, 97, 115, 101, 32]⟩ : ByteArray)) ++ t140) ++ (⟨#[32]⟩ : ByteArray)) ++ (stW a0_4))) else (none)) else (none)) else (none))) else (none)) else (none))) else (none)) else (none))) else (none)) else (none))) = some r := h
  clear h
  replace H := Option.bind_eq_some_iff.mp H
  obtain ⟨t137, A20, H⟩ := H
  replace H : (if 5 + t137.size ≤ 9223372036854775807 then (if ((⟨#[108, 101, 97, 100, 32]⟩ : ByteArray) ++ t137).size + 4 ≤ 9223372036854775807 then ((impl_decimal.f a0_1).bind fun t138 => (if (((⟨#[108, 101, 97, 100, 32]⟩ : ByteArray) ++ t137) ++ (⟨#[32, 97, 116, 32]⟩ : ByteArray)).size + t138.size ≤ 9223372036854775807 then (if ((((⟨#[108, 101, 97, 100, 32]⟩ : ByteArray) ++ t137) ++ (⟨#[32, 97, 116, 32]⟩ : ByteArray)) ++ t138).size + 7 ≤ 9223372036854775807 then ((impl_decimal.f a0_2).bind fun t139 => (if (((((⟨#[108, 101, 97, 100, 32]⟩ : ByteArray) ++ t137) ++ (⟨#[32, 97, 116, 32]⟩ : ByteArray)) ++ t138) ++ (⟨#[58, 32, 115, 105, 122, 101, 32]⟩ : ByteArray)).size + t139.size ≤ 9223372036854775807 then (if ((((((⟨#[108, 101, 97, 100, 32]⟩ : ByteArray) ++ t137) ++ (⟨#[32, 97, 116, 32]⟩ : ByteArray)) ++ t138) ++ (⟨#[58, 32, 115, 105, 122, 101, 32]⟩ : ByteArray)) ++ t139).size + 6 ≤ 9223372036854775807 then ((impl_decimal.f a0_3).bind fun t140 => (if (((((((⟨#[108, 101, 97, 100, 32]⟩ : ByteArray) ++ t137) ++ (⟨#[32, 97, 116, 32]⟩ : ByteArray)) ++ t138) ++ (⟨#[58, 32, 115, 105, 122, 101, 32]⟩ : ByteArray)) ++ t139) ++ (⟨#[32, 101, 97, 115, 101, 32]⟩ : ByteArray)).size + t140.size ≤ 9223372036854775807 then (if ((((((((⟨#[108, 101, 97, 100, 32]⟩ : ByteArray) ++ t137) ++ (⟨#[32, 97, 116, 32]⟩ : ByteArray)) ++ t138) ++ (⟨#[58, 32, 115, 105, 122, 101, 32]⟩ : ByteArray)) ++ t139) ++ (⟨#[32, 101, 97, 115, 101, 32]⟩ : ByteArray)) ++ t140).size + 1 ≤ 9223372036854775807 then (if (((((((((⟨#[108, 101, 97, 100, 32]⟩ : ByteArray) ++ t137) ++ (⟨#[32, 97, 116, 32]⟩ : ByteArray)) ++ t138) ++ (⟨#[58, 32, 115, 105, 122, 101, 32]⟩ : ByteArray)) ++ t139) ++ (⟨#[32, 101, 97, 115, 101, 32]⟩ : ByteArray)) ++ t140) ++ (⟨#[32]⟩ : ByteArray)).size + (stW a0_4).size ≤ 9223372036854775807 then (some ((((((((((⟨#[108, 101, 97, 100, 32]⟩ : ByteArray) ++ t137) ++ (⟨#[32, 97, 116, 32]⟩ : ByteArray)) ++ t138) ++ (⟨#[58, 32, 115, 105, 122, 101, 32]⟩ : ByteArray)) ++ t139) ++ (⟨#[32, 101, 97, 115, 101, 32]⟩ : ByteArray)) ++ t140) ++ (⟨#[32]⟩ : ByteArray)) ++ (stW a0_4))) else (none)) else (none)) else (none))) else (none)) else (none))) else (none)) else (none))) else (none)) else (none)) = some r := H
  have A2 := Aside0.mk A20
  clear A20
  by_cases c3 : 5 + t137.size ≤ 9223372036854775807
  · rw [if_pos c3] at H
    have c3b0 := eq_true c3
    have c3b1 : decide (5 + t137.size ≤ 9223372036854775807) = true := decide_eq_true c3
    try have c3b2 : (9223372036854775807 < 5 + t137.size) = False := eq_false (Nat.not_lt.2 c3)
    by_cases c4 : ((⟨#[108, 101, 97, 100, 32]⟩ : ByteArray) ++ t137).size + 4 ≤ 9223372036854775807
    · rw [if_pos c4] at H
      have c4b0 := eq_true c4
      have c4b1 : decide (((⟨#[108, 101, 97, 100, 32]⟩ : ByteArray) ++ t137).size + 4 ≤ 9223372036854775807) = true := decide_eq_true c4
      try have c4b2 : (9223372036854775807 < ((⟨#[108, 101, 97, 100, 32]⟩ : ByteArray) ++ t137).size + 4) = False := eq_false (Nat.not_lt.2 c4)
      have c4b3 : (9223372036854775807 < 5 + t137.size + 4) = False := by have e_ := c4; simp only [ByteArray.size_append, show (⟨#[108, 101, 97, 100, 32]⟩ : ByteArray).size = 5 from rfl] at e_; exact eq_false (by omega)
      replace H := Option.bind_eq_some_iff.mp H
      obtain ⟨t138, A50, H⟩ := H
      replace H : (if (((⟨#[108, 101, 97, 100, 32]⟩ : ByteArray) ++ t137) ++ (⟨#[32, 97, 116, 32]⟩ : ByteArray)).size + t138.size ≤ 9223372036854775807 then (if ((((⟨#[108, 101, 97, 100, 32]⟩ : ByteArray) ++ t137) ++ (⟨#[32, 97, 116, 32]⟩ : ByteArray)) ++ t138).size + 7 ≤ 9223372036854775807 then ((impl_decimal.f a0_2).bind fun t139 => (if (((((⟨#[108, 101, 97, 100, 32]⟩ : ByteArray) ++ t137) ++ (⟨#[32, 97, 116, 32]⟩ : ByteArray)) ++ t138) ++ (⟨#[58, 32, 115, 105, 122, 101, 32]⟩ : ByteArray)).size + t139.size ≤ 9223372036854775807 then (if ((((((⟨#[108, 101, 97, 100, 32]⟩ : ByteArray) ++ t137) ++ (⟨#[32, 97, 116, 32]⟩ : ByteArray)) ++ t138) ++ (⟨#[58, 32, 115, 105, 122, 101, 32]⟩ : ByteArray)) ++ t139).size + 6 ≤ 9223372036854775807 then ((impl_decimal.f a0_3).bind fun t140 => (if (((((((⟨#[108, 101, 97, 100, 32]⟩ : ByteArray) ++ t137) ++ (⟨#[32, 97, 116, 32]⟩ : ByteArray)) ++ t138) ++ (⟨#[58, 32, 115, 105, 122, 101, 32]⟩ : ByteArray)) ++ t139) ++ (⟨#[32, 101, 97, 115, 101, 32]⟩ : ByteArray)).size + t140.size ≤ 9223372036854775807 then (if ((((((((⟨#[108, 101, 97, 100, 32]⟩ : ByteArray) ++ t137) ++ (⟨#[32, 97, 116, 32]⟩ : ByteArray)) ++ t138) ++ (⟨#[58, 32, 115, 105, 122, 101, 32]⟩ : ByteArray)) ++ t139) ++ (⟨#[32, 101, 97, 115, 101, 32]⟩ : ByteArray)) ++ t140).size + 1 ≤ 9223372036854775807 then (if (((((((((⟨#[108, 101, 97, 100, 32]⟩ : ByteArray) ++ t137) ++ (⟨#[32, 97, 116, 32]⟩ : ByteArray)) ++ t138) ++ (⟨#[58, 32, 115, 105, 122, 101, 32]⟩ : ByteArray)) ++ t139) ++ (⟨#[32, 101, 97, 115, 101, 32]⟩ : ByteArray)) ++ t140) ++ (⟨#[32]⟩ : ByteArray)).size + (stW a0_4).size ≤ 9223372036854775807 then (some ((((((((((⟨#[108, 101, 97, 100, 32]⟩ : ByteArray) ++ t137) ++ (⟨#[32, 97, 116, 32]⟩ : ByteArray)) ++ t138) ++ (⟨#[58, 32, 115, 105, 122, 101, 32]⟩ : ByteArray)) ++ t139) ++ (⟨#[32, 101, 97, 115, 101, 32]⟩ : ByteArray)) ++ t140) ++ (⟨#[32]⟩ : ByteArray)) ++ (stW a0_4))) else (none)) else (none)) else (none))) else (none)) else (none))) else (none)) else (none)) = some r := H
      have A5 := Aside0.mk A50
      clear A50
      by_cases c6 : (((⟨#[108, 101, 97, 100, 32]⟩ : ByteArray) ++ t137) ++ (⟨#[32, 97, 116, 32]⟩ : ByteArray)).size + t138.size ≤ 9223372036854775807
      · rw [if_pos c6] at H
        have c6b0 := eq_true c6
        have c6b1 : decide ((((⟨#[108, 101, 97, 100, 32]⟩ : ByteArray) ++ t137) ++ (⟨#[32, 97, 116, 32]⟩ : ByteArray)).size + t138.size ≤ 9223372036854775807) = true := decide_eq_true c6
        try have c6b2 : (9223372036854775807 < (((⟨#[108, 101, 97, 100, 32]⟩ : ByteArray) ++ t137) ++ (⟨#[32, 97, 116, 32]⟩ : ByteArray)).size + t138.size) = False := eq_false (Nat.not_lt.2 c6)
        have c6b3 : (9223372036854775807 < 5 + t137.size + 4 + t138.size) = False := by have e_ := c6; simp only [ByteArray.size_append, show (⟨#[108, 101, 97, 100, 32]⟩ : ByteArray).size = 5 from rfl, show (⟨#[32, 97, 116, 32]⟩ : ByteArray).size = 4 from rfl] at e_; exact eq_false (by omega)
        by_cases c7 : ((((⟨#[108, 101, 97, 100, 32]⟩ : ByteArray) ++ t137) ++ (⟨#[32, 97, 116, 32]⟩ : ByteArray)) ++ t138).size + 7 ≤ 9223372036854775807
        · rw [if_pos c7] at H
          have c7b0 := eq_true c7
          have c7b1 : decide (((((⟨#[108, 101, 97, 100, 32]⟩ : ByteArray) ++ t137) ++ (⟨#[32, 97, 116, 32]⟩ : ByteArray)) ++ t138).size + 7 ≤ 9223372036854775807) = true := decide_eq_true c7
          try have c7b2 : (9223372036854775807 < ((((⟨#[108, 101, 97, 100, 32]⟩ : ByteArray) ++ t137) ++ (⟨#[32, 97, 116, 32]⟩ : ByteArray)) ++ t138).size + 7) = False := eq_false (Nat.not_lt.2 c7)
          have c7b3 : (9223372036854775807 < 5 + t137.size + 4 + t138.size + 7) = False := by have e_ := c7; simp only [ByteArray.size_append, show (⟨#[108, 101, 97, 100, 32]⟩ : ByteArray).size = 5 from rfl, show (⟨#[32, 97, 116, 32]⟩ : ByteArray).size = 4 from rfl] at e_; exact eq_false (by omega)
          replace H := Option.bind_eq_some_iff.mp H
          obtain ⟨t139, A80, H⟩ := H
          replace H : (if (((((⟨#[108, 101, 97, 100, 32]⟩ : ByteArray) ++ t137) ++ (⟨#[32, 97, 116, 32]⟩ : ByteArray)) ++ t138) ++ (⟨#[58, 32, 115, 105, 122, 101, 32]⟩ : ByteArray)).size + t139.size ≤ 9223372036854775807 then (if ((((((⟨#[108, 101, 97, 100, 32]⟩ : ByteArray) ++ t137) ++ (⟨#[32, 97, 116, 32]⟩ : ByteArray)) ++ t138) ++ (⟨#[58, 32, 115, 105, 122, 101, 32]⟩ : ByteArray)) ++ t139).size + 6 ≤ 9223372036854775807 then ((impl_decimal.f a0_3).bind fun t140 => (if (((((((⟨#[108, 101, 97, 100, 32]⟩ : ByteArray) ++ t137) ++ (⟨#[32, 97, 116, 32]⟩ : ByteArray)) ++ t138) ++ (⟨#[58, 32, 115, 105, 122, 101, 32]⟩ : ByteArray)) ++ t139) ++ (⟨#[32, 101, 97, 115, 101, 32]⟩ : ByteArray)).size + t140.size ≤ 9223372036854775807 then (if ((((((((⟨#[108, 101, 97, 100, 32]⟩ : ByteArray) ++ t137) ++ (⟨#[32, 97, 116, 32]⟩ : ByteArray)) ++ t138) ++ (⟨#[58, 32, 115, 105, 122, 101, 32]⟩ : ByteArray)) ++ t139) ++ (⟨#[32, 101, 97, 115, 101, 32]⟩ : ByteArray)) ++ t140).size + 1 ≤ 9223372036854775807 then (if (((((((((⟨#[108, 101, 97, 100, 32]⟩ : ByteArray) ++ t137) ++ (⟨#[32, 97, 116, 32]⟩ : ByteArray)) ++ t138) ++ (⟨#[58, 32, 115, 105, 122, 101, 32]⟩ : ByteArray)) ++ t139) ++ (⟨#[32, 101, 97, 115, 101, 32]⟩ : ByteArray)) ++ t140) ++ (⟨#[32]⟩ : ByteArray)).size + (stW a0_4).size ≤ 9223372036854775807 then (some ((((((((((⟨#[108, 101, 97, 100, 32]⟩ : ByteArray) ++ t137) ++ (⟨#[32, 97, 116, 32]⟩ : ByteArray)) ++ t138) ++ (⟨#[58, 32, 115, 105, 122, 101, 32]⟩ : ByteArray)) ++ t139) ++ (⟨#[32, 101, 97, 115, 101, 32]⟩ : ByteArray)) ++ t140) ++ (⟨#[32]⟩ : ByteArray)) ++ (stW a0_4))) else (none)) else (none)) else (none))) else (none)) else (none)) = some r := H
          have A8 := Aside0.mk A80
          clear A80
          by_cases c9 : (((((⟨#[108, 101, 97, 100, 32]⟩ : ByteArray) ++ t137) ++ (⟨#[32, 97, 116, 32]⟩ : ByteArray)) ++ t138) ++ (⟨#[58, 32, 115, 105, 122, 101, 32]⟩ : ByteArray)).size + t139.size ≤ 9223372036854775807
          · rw [if_pos c9] at H
            have c9b0 := eq_true c9
            have c9b1 : decide ((((((⟨#[108, 101, 97, 100, 32]⟩ : ByteArray) ++ t137) ++ (⟨#[32, 97, 116, 32]⟩ : ByteArray)) ++ t138) ++ (⟨#[58, 32, 115, 105, 122, 101, 32]⟩ : ByteArray)).size + t139.size ≤ 9223372036854775807) = true := decide_eq_true c9
            try have c9b2 : (9223372036854775807 < (((((⟨#[108, 101, 97, 100, 32]⟩ : ByteArray) ++ t137) ++ (⟨#[32, 97, 116, 32]⟩ : ByteArray)) ++ t138) ++ (⟨#[58, 32, 115, 105, 122, 101, 32]⟩ : ByteArray)).size + t139.size) = False := eq_false (Nat.not_lt.2 c9)
            have c9b3 : (9223372036854775807 < 5 + t137.size + 4 + t138.size + 7 + t139.size) = False := by have e_ := c9; simp only [ByteArray.size_append, show (⟨#[108, 101, 97, 100, 32]⟩ : ByteArray).size = 5 from rfl, show (⟨#[32, 97, 116, 32]⟩ : ByteArray).size = 4 from rfl, show (⟨#[58, 32, 115, 105, 122, 101, 32]⟩ : ByteArray).size = 7 from rfl] at e_; exact eq_false (by omega)
            by_cases c10 : ((((((⟨#[108, 101, 97, 100, 32]⟩ : ByteArray) ++ t137) ++ (⟨#[32, 97, 116, 32]⟩ : ByteArray)) ++ t138) ++ (⟨#[58, 32, 115, 105, 122, 101, 32]⟩ : ByteArray)) ++ t139).size + 6 ≤ 9223372036854775807
            · rw [if_pos c10] at H
              have c10b0 := eq_true c10
              have c10b1 : decide (((((((⟨#[108, 101, 97, 100, 32]⟩ : ByteArray) ++ t137) ++ (⟨#[32, 97, 116, 32]⟩ : ByteArray)) ++ t138) ++ (⟨#[58, 32, 115, 105, 122, 101, 32]⟩ : ByteArray)) ++ t139).size + 6 ≤ 9223372036854775807) = true := decide_eq_true c10
              try have c10b2 : (9223372036854775807 < ((((((⟨#[108, 101, 97, 100, 32]⟩ : ByteArray) ++ t137) ++ (⟨#[32, 97, 116, 32]⟩ : ByteArray)) ++ t138) ++ (⟨#[58, 32, 115, 105, 122, 101, 32]⟩ : ByteArray)) ++ t139).size + 6) = False := eq_false (Nat.not_lt.2 c10)
              have c10b3 : (9223372036854775807 < 5 + t137.size + 4 + t138.size + 7 + t139.size + 6) = False := by have e_ := c10; simp only [ByteArray.size_append, show (⟨#[108, 101, 97, 100, 32]⟩ : ByteArray).size = 5 from rfl, show (⟨#[32, 97, 116, 32]⟩ : ByteArray).size = 4 from rfl, show (⟨#[58, 32, 115, 105, 122, 101, 32]⟩ : ByteArray).size = 7 from rfl] at e_; exact eq_false (by omega)
              replace H := Option.bind_eq_some_iff.mp H
              obtain ⟨t140, A110, H⟩ := H
              replace H : (if (((((((⟨#[108, 101, 97, 100, 32]⟩ : ByteArray) ++ t137) ++ (⟨#[32, 97, 116, 32]⟩ : ByteArray)) ++ t138) ++ (⟨#[58, 32, 115, 105, 122, 101, 32]⟩ : ByteArray)) ++ t139) ++ (⟨#[32, 101, 97, 115, 101, 32]⟩ : ByteArray)).size + t140.size ≤ 9223372036854775807 then (if ((((((((⟨#[108, 101, 97, 100, 32]⟩ : ByteArray) ++ t137) ++ (⟨#[32, 97, 116, 32]⟩ : ByteArray)) ++ t138) ++ (⟨#[58, 32, 115, 105, 122, 101, 32]⟩ : ByteArray)) ++ t139) ++ (⟨#[32, 101, 97, 115, 101, 32]⟩ : ByteArray)) ++ t140).size + 1 ≤ 9223372036854775807 then (if (((((((((⟨#[108, 101, 97, 100, 32]⟩ : ByteArray) ++ t137) ++ (⟨#[32, 97, 116, 32]⟩ : ByteArray)) ++ t138) ++ (⟨#[58, 32, 115, 105, 122, 101, 32]⟩ : ByteArray)) ++ t139) ++ (⟨#[32, 101, 97, 115, 101, 32]⟩ : ByteArray)) ++ t140) ++ (⟨#[32]⟩ : ByteArray)).size + (stW a0_4).size ≤ 9223372036854775807 then (some ((((((((((⟨#[108, 101, 97, 100, 32]⟩ : ByteArray) ++ t137) ++ (⟨#[32, 97, 116, 32]⟩ : ByteArray)) ++ t138) ++ (⟨#[58, 32, 115, 105, 122, 101, 32]⟩ : ByteArray)) ++ t139) ++ (⟨#[32, 101, 97, 115, 101, 32]⟩ : ByteArray)) ++ t140) ++ (⟨#[32]⟩ : ByteArray)) ++ (stW a0_4))) else (none)) else (none)) else (none)) = some r := H
              have A11 := Aside0.mk A110
              clear A110
              by_cases c12 : (((((((⟨#[108, 101, 97, 100, 32]⟩ : ByteArray) ++ t137) ++ (⟨#[32, 97, 116, 32]⟩ : ByteArray)) ++ t138) ++ (⟨#[58, 32, 115, 105, 122, 101, 32]⟩ : ByteArray)) ++ t139) ++ (⟨#[32, 101, 97, 115, 101, 32]⟩ : ByteArray)).size + t140.size ≤ 9223372036854775807
              · rw [if_pos c12] at H
                have c12b0 := eq_true c12
                have c12b1 : decide ((((((((⟨#[108, 101, 97, 100, 32]⟩ : ByteArray) ++ t137) ++ (⟨#[32, 97, 116, 32]⟩ : ByteArray)) ++ t138) ++ (⟨#[58, 32, 115, 105, 122, 101, 32]⟩ : ByteArray)) ++ t139) ++ (⟨#[32, 101, 97, 115, 101, 32]⟩ : ByteArray)).size + t140.size ≤ 9223372036854775807) = true := decide_eq_true c12
                try have c12b2 : (9223372036854775807 < (((((((⟨#[108, 101, 97, 100, 32]⟩ : ByteArray) ++ t137) ++ (⟨#[32, 97, 116, 32]⟩ : ByteArray)) ++ t138) ++ (⟨#[58, 32, 115, 105, 122, 101, 32]⟩ : ByteArray)) ++ t139) ++ (⟨#[32, 101, 97, 115, 101, 32]⟩ : ByteArray)).size + t140.size) = False := eq_false (Nat.not_lt.2 c12)
                have c12b3 : (9223372036854775807 < 5 + t137.size + 4 + t138.size + 7 + t139.size + 6 + t140.size) = False := by have e_ := c12; simp only [ByteArray.size_append, show (⟨#[108, 101, 97, 100, 32]⟩ : ByteArray).size = 5 from rfl, show (⟨#[32, 97, 116, 32]⟩ : ByteArray).size = 4 from rfl, show (⟨#[58, 32, 115, 105, 122, 101, 32]⟩ : ByteArray).size = 7 from rfl, show (⟨#[32, 101, 97, 115, 101, 32]⟩ : ByteArray).size = 6 from rfl] at e_; exact eq_false (by omega)
                by_cases c13 : ((((((((⟨#[108, 101, 97, 100, 32]⟩ : ByteArray) ++ t137) ++ (⟨#[32, 97, 116, 32]⟩ : ByteArray)) ++ t138) ++ (⟨#[58, 32, 115, 105, 122, 101, 32]⟩ : ByteArray)) ++ t139) ++ (⟨#[32, 101, 97, 115, 101, 32]⟩ : ByteArray)) ++ t140).size + 1 ≤ 9223372036854775807
                · rw [if_pos c13] at H
                  have c13b0 := eq_true c13
                  have c13b1 : decide (((((((((⟨#[108, 101, 97, 100, 32]⟩ : ByteArray) ++ t137) ++ (⟨#[32, 97, 116, 32]⟩ : ByteArray)) ++ t138) ++ (⟨#[58, 32, 115, 105, 122, 101, 32]⟩ : ByteArray)) ++ t139) ++ (⟨#[32, 101, 97, 115, 101, 32]⟩ : ByteArray)) ++ t140).size + 1 ≤ 9223372036854775807) = true := decide_eq_true c13
                  try have c13b2 : (9223372036854775807 < ((((((((⟨#[108, 101, 97, 100, 32]⟩ : ByteArray) ++ t137) ++ (⟨#[32, 97, 116, 32]⟩ : ByteArray)) ++ t138) ++ (⟨#[58, 32, 115, 105, 122, 101, 32]⟩ : ByteArray)) ++ t139) ++ (⟨#[32, 101, 97, 115, 101, 32]⟩ : ByteArray)) ++ t140).size + 1) = False := eq_false (Nat.not_lt.2 c13)
                  have c13b3 : (9223372036854775807 < 5 + t137.size + 4 + t138.size + 7 + t139.size + 6 + t140.size + 1) = False := by have e_ := c13; simp only [ByteArray.size_append, show (⟨#[108, 101, 97, 100, 32]⟩ : ByteArray).size = 5 from rfl, show (⟨#[32, 97, 116, 32]⟩ : ByteArray).size = 4 from rfl, show (⟨#[58, 32, 115, 105, 122, 101, 32]⟩ : ByteArray).size = 7 from rfl, show (⟨#[32, 101, 97, 115, 101, 32]⟩ : ByteArray).size = 6 from rfl] at e_; exact eq_false (by omega)
                  by_cases c14 : (((((((((⟨#[108, 101, 97, 100, 32]⟩ : ByteArray) ++ t137) ++ (⟨#[32, 97, 116, 32]⟩ : ByteArray)) ++ t138) ++ (⟨#[58, 32, 115, 105, 122, 101, 32]⟩ : ByteArray)) ++ t139) ++ (⟨#[32, 101, 97, 115, 101, 32]⟩ : ByteArray)) ++ t140) ++ (⟨#[32]⟩ : ByteArray)).size + (stW a0_4).size ≤ 9223372036854775807
                  · rw [if_pos c14] at H
                    have c14b0 := eq_true c14
                    have c14b1 : decide ((((((((((⟨#[108, 101, 97, 100, 32]⟩ : ByteArray) ++ t137) ++ (⟨#[32, 97, 116, 32]⟩ : ByteArray)) ++ t138) ++ (⟨#[58, 32, 115, 105, 122, 101, 32]⟩ : ByteArray)) ++ t139) ++ (⟨#[32, 101, 97, 115, 101, 32]⟩ : ByteArray)) ++ t140) ++ (⟨#[32]⟩ : ByteArray)).size + (stW a0_4).size ≤ 9223372036854775807) = true := decide_eq_true c14
                    try have c14b2 : (9223372036854775807 < (((((((((⟨#[108, 101, 97, 100, 32]⟩ : ByteArray) ++ t137) ++ (⟨#[32, 97, 116, 32]⟩ : ByteArray)) ++ t138) ++ (⟨#[58, 32, 115, 105, 122, 101, 32]⟩ : ByteArray)) ++ t139) ++ (⟨#[32, 101, 97, 115, 101, 32]⟩ : ByteArray)) ++ t140) ++ (⟨#[32]⟩ : ByteArray)).size + (stW a0_4).size) = False := eq_false (Nat.not_lt.2 c14)
                    have c14b3 : (9223372036854775807 < 5 + t137.size + 4 + t138.size + 7 + t139.size + 6 + t140.size + 1 + (stW a0_4).size) = False := by have e_ := c14; simp only [ByteArray.size_append, show (⟨#[108, 101, 97, 100, 32]⟩ : ByteArray).size = 5 from rfl, show (⟨#[32, 97, 116, 32]⟩ : ByteArray).size = 4 from rfl, show (⟨#[58, 32, 115, 105, 122, 101, 32]⟩ : ByteArray).size = 7 from rfl, show (⟨#[32, 101, 97, 115, 101, 32]⟩ : ByteArray).size = 6 from rfl, show (⟨#[32]⟩ : ByteArray).size = 1 from rfl] at e_; exact eq_false (by omega)
                    obtain rfl := Option.some.inj H
                    go_enter Tryd.func26, Tryd.ntmps26
                    try go_wp2_with (first | ((with_reducible refine gate_dst (N := 1) rfl ?_); refine box_event ?hg (N := 1) ?hd (cs := #[.int .i64 a0_0, .int .i64 a0_1, .int .i64 a0_2, .int .i64 a0_3, .int .i64 a0_4]) (t := 26) ?hr ?_; (case hd => rfl); (case hg => rfl); (case hr => first | (go_simp; done) | (go_simp; rfl)); intro gb136 hg w15 hbox hb; have n0_ := Aside0.mk (below_step (upB HB.out) hb); have n1_ := Aside0.mk (hbox); have n2_ := Aside0.mk ((by rw [hg]; exact (below_size (upB HB.out)) : w.heap.size ≤ gb136)); have n3_ := Aside0.mk ((by rw [hg]; exact (below_size (upB HB.out)) : w.heap.size ≤ gb136)); clear HB; have HB := n0_; have BK136 := n1_; have GW136 := n2_; have GE136 := n3_; clear n0_ n1_ n2_ n3_; clear hb hbox hg))
                    have n0_ := Aside0.mk (blk_drew BK136.out)
                    have n1_ := Aside0.mk (below_drew1 HB.out)
                    clear BK136
                    clear HB
                    have BK136 := n0_
                    have HB := n1_
                    clear n0_ n1_
                    refine start_ (n := 26) (S := fun w' => w'.cell? ⟨gb136, 0, none⟩ = some (.int .i64 a0_0) ∧ w'.cell? ⟨gb136, 1, none⟩ = some (.int .i64 a0_1) ∧ w'.cell? ⟨gb136, 2, none⟩ = some (.int .i64 a0_2) ∧ w'.cell? ⟨gb136, 3, none⟩ = some (.int .i64 a0_3) ∧ w'.cell? ⟨gb136, 4, none⟩ = some (.int .i64 a0_4) ∧ w'.cell? ⟨0, a0_4.toNat, none⟩ = some (.string (stW a0_4))) (ds := []) #[false, false, false, false, false, false, false, false, false, false, false, false, false, false, false, false, false, false, false, false, false, false, false, false, false, false] (by kernel_rfl) rfl rfl ⟨(blk_cell BK136.out 0).trans rfl, (blk_cell BK136.out 1).trans rfl, (blk_cell BK136.out 2).trans rfl, (blk_cell BK136.out 3).trans rfl, (blk_cell BK136.out 4).trans rfl, TabW.word hTW HB.out hg0_ hg1_⟩ (fun hHeld => ?_); refine with_tabW impl_leadText.tab1 impl_leadText.bits1 (fun HT_ HW_ => ?_)
                    generalize w15.drew = w16 at BK136 HB hHeld ⊢
                    refine pure_ (i := 0) (N := some 3) (v := ?_) (a' := ?_) #[true, false, false, false, false, false, false, false, false, false, false, false, false, false, false, false, false, false, false, false, false, false, false, false, false, false] rfl rfl (any_of HT_.out (by kernel_rfl)) (fun _ _ _ h => h) (Or.inl ⟨by rfl, ?_⟩) ?_ ?_
                    rotate_left
                    · intro w'
                      go_simp
                      with_reducible rfl
                    rotate_left
                    · simp only [Act.put, List.setIfInBounds_toArray, List.set_cons_zero, List.set_cons_succ, i64_w, i32_w]
                      rfl
                    refine pure_ (i := 5) (N := some 8) (v := ?_) (a' := ?_) #[true, false, false, false, false, true, false, false, false, false, false, false, false, false, false, false, false, false, false, false, false, false, false, false, false, false] rfl rfl (any_of HT_.out (by kernel_rfl)) (fun _ _ _ h => h) (Or.inl ⟨by rfl, ?_⟩) ?_ ?_
                    rotate_left
                    · intro w'
                      go_simp
                      with_reducible rfl
                    rotate_left
                    · simp only [Act.put, List.setIfInBounds_toArray, List.set_cons_zero, List.set_cons_succ, i64_w, i32_w]
                      rfl
                    refine pure_ (i := 10) (N := some 13) (v := ?_) (a' := ?_) #[true, false, false, false, false, true, false, false, false, false, true, false, false, false, false, false, false, false, false, false, false, false, false, false, false, false] rfl rfl (any_of HT_.out (by kernel_rfl)) (fun _ _ _ h => h) (Or.inl ⟨by rfl, ?_⟩) ?_ ?_
                    rotate_left
                    · intro w'
                      go_simp
                      with_reducible rfl
                    rotate_left
                    · simp only [Act.put, List.setIfInBounds_toArray, List.set_cons_zero, List.set_cons_succ, i64_w, i32_w]
                      rfl
                    refine pure_ (i := 15) (N := some 18) (v := ?_) (a' := ?_) #[true, false, false, false, false, true, false, false, false, false, true, false, false, false, false, true, false, false, false, false, false, false, false, false, false, false] rfl rfl (any_of HT_.out (by kernel_rfl)) (fun _ _ _ h => h) (Or.inl ⟨by rfl, ?_⟩) ?_ ?_
                    rotate_left
                    · intro w'
                      go_simp
                      with_reducible rfl
                    rotate_left
                    · simp only [Act.put, List.setIfInBounds_toArray, List.set_cons_zero, List.set_cons_succ, i64_w, i32_w]
                      rfl
                    refine pure_ (i := 20) (N := some 23) (v := ?_) (a' := ?_) #[true, false, false, false, false, true, false, false, false, false, true, false, false, false, false, true, false, false, false, false, true, false, false, false, false, false] rfl rfl (any_of HT_.out (by kernel_rfl)) (fun _ _ _ h => h) (Or.inl ⟨by rfl, ?_⟩) ?_ ?_
                    rotate_left
                    · intro w'
                      go_simp
                      with_reducible rfl
                    rotate_left
                    · simp only [Act.put, List.setIfInBounds_toArray, List.set_cons_zero, List.set_cons_succ, i64_w, i32_w]
                      rfl
                    refine take_ (i := 1) (N := some 4) (v := ?_) (a' := ?_) #[true, true, false, false, false, true, false, false, false, false, true, false, false, false, false, true, false, false, false, false, true, false, false, false, false, false] rfl rfl (take_ofW HT_.out HW_.out (by kernel_rfl)) (fun _ _ _ h => h) (Or.inl ⟨by rfl, ?_⟩) hHeld ?_ ?_
                    rotate_left
                    · rintro w' ⟨s0, s1, s2, s3, s4, s5⟩
                      go_simp
                      with_reducible rfl
                    rotate_left
                    · simp only [Act.put, List.setIfInBounds_toArray, List.set_cons_zero, List.set_cons_succ, i64_w, i32_w]
                      rfl
                    refine take_ (i := 6) (N := some 9) (v := ?_) (a' := ?_) #[true, true, false, false, false, true, true, false, false, false, true, false, false, false, false, true, false, false, false, false, true, false, false, false, false, false] rfl rfl (take_ofW HT_.out HW_.out (by kernel_rfl)) (fun _ _ _ h => h) (Or.inl ⟨by rfl, ?_⟩) hHeld ?_ ?_
                    rotate_left
                    · rintro w' ⟨s0, s1, s2, s3, s4, s5⟩
                      go_simp
                      with_reducible rfl
                    rotate_left
                    · simp only [Act.put, List.setIfInBounds_toArray, List.set_cons_zero, List.set_cons_succ, i64_w, i32_w]
                      rfl
                    refine take_ (i := 11) (N := some 14) (v := ?_) (a' := ?_) #[true, true, false, false, false, true, true, false, false, false, true, true, false, false, false, true, false, false, false, false, true, false, false, false, false, false] rfl rfl (take_ofW HT_.out HW_.out (by kernel_rfl)) (fun _ _ _ h => h) (Or.inl ⟨by rfl, ?_⟩) hHeld ?_ ?_
                    rotate_left
                    · rintro w' ⟨s0, s1, s2, s3, s4, s5⟩
                      go_simp
                      with_reducible rfl
                    rotate_left
                    · simp only [Act.put, List.setIfInBounds_toArray, List.set_cons_zero, List.set_cons_succ, i64_w, i32_w]
                      rfl
                    refine take_ (i := 16) (N := some 19) (v := ?_) (a' := ?_) #[true, true, false, false, false, true, true, false, false, false, true, true, false, false, false, true, true, false, false, false, true, false, false, false, false, false] rfl rfl (take_ofW HT_.out HW_.out (by kernel_rfl)) (fun _ _ _ h => h) (Or.inl ⟨by rfl, ?_⟩) hHeld ?_ ?_
                    rotate_left
                    · rintro w' ⟨s0, s1, s2, s3, s4, s5⟩
                      go_simp
                      with_reducible rfl
                    rotate_left
                    · simp only [Act.put, List.setIfInBounds_toArray, List.set_cons_zero, List.set_cons_succ, i64_w, i32_w]
                      rfl
                    refine take_ (i := 21) (N := some 24) (v := ?_) (a' := ?_) #[true, true, false, false, false, true, true, false, false, false, true, true, false, false, false, true, true, false, false, false, true, true, false, false, false, false] rfl rfl (take_ofW HT_.out HW_.out (by kernel_rfl)) (fun _ _ _ h => h) (Or.inl ⟨by rfl, ?_⟩) hHeld ?_ ?_
                    rotate_left
                    · rintro w' ⟨s0, s1, s2, s3, s4, s5⟩
                      go_simp
                      with_reducible rfl
                    rotate_left
                    · simp only [Act.put, List.setIfInBounds_toArray, List.set_cons_zero, List.set_cons_succ, i64_w, i32_w]
                      rfl
                    refine pure_ (i := 22) (N := some 25) (v := ?_) (a' := ?_) #[true, true, false, false, false, true, true, false, false, false, true, true, false, false, false, true, true, false, false, false, true, true, true, false, false, false] rfl rfl (any_of HT_.out (by kernel_rfl)) (fun _ _ _ h => h) (Or.inl ⟨by rfl, ?_⟩) ?_ ?_
                    rotate_left
                    · intro w'
                      go_simp
                      with_reducible rfl
                    rotate_left
                    · simp only [Act.put, List.setIfInBounds_toArray, List.set_cons_zero, List.set_cons_succ, i64_w, i32_w]
                      rfl
                    refine take_ (i := 23) (N := some 26) (v := ?_) (a' := ?_) #[true, true, false, false, false, true, true, false, false, false, true, true, false, false, false, true, true, false, false, false, true, true, true, true, false, false] rfl rfl (take_ofW HT_.out HW_.out (by kernel_rfl)) (fun _ _ _ h => h) (Or.inl ⟨by rfl, ?_⟩) hHeld ?_ ?_
                    rotate_left
                    · rintro w' ⟨s0, s1, s2, s3, s4, s5⟩
                      go_simp
                      with_reducible rfl
                    rotate_left
                    · simp only [Act.put, List.setIfInBounds_toArray, List.set_cons_zero, List.set_cons_succ, i64_w, i32_w]
                      rfl
                    refine one_ (i := 2) (N := some 5) #[true, true, true, false, false, true, true, false, false, false, true, true, false, false, false, true, true, false, false, false, true, true, true, true, false, false] rfl rfl (one_of HT_.out (by kernel_rfl)) (by decide) (fun K hK => ?_)
                    refine goes_ Tryd.func49 (by kernel_rfl) rfl #[.int .i64 a0_0] (by rfl) rfl rfl argsB ?_
                    with_reducible refine (impl_decimal.calls a0_0 t137 _ A2.out (TabW.up2 hTW HB.out)).mono ?_
                    rintro e w17 ⟨rfl, hb⟩
                    refine ⟨_, rfl, ?_⟩
                    have n0_ := Aside0.mk (blk_below (g := gb136) (o := .cells #[.int .i64 a0_0, .int .i64 a0_1, .int .i64 a0_2, .int .i64 a0_3, .int .i64 a0_4] 26 (0, 0)) (upK BK136.out) hb)
                    have n1_ := Aside0.mk (below_step (upB1 HB.out GE136.out) hb)
                    clear BK136
                    clear HB
                    have BK136 := n0_
                    have HB := n1_
                    clear n0_ n1_
                    (try clear hb)
                    refine hK.out _ _ ⟨(blk_cell BK136.out 0).trans rfl, (blk_cell BK136.out 1).trans rfl, (blk_cell BK136.out 2).trans rfl, (blk_cell BK136.out 3).trans rfl, (blk_cell BK136.out 4).trans rfl, TabW.word hTW HB.out hg0_ hg1_⟩ (fun hHeld => ?_)
                    clear hK K
                    refine norm_ (a' := ?_) ?_ ?_
                    rotate_left
                    · show Act.put _ (some 5) _ = _
                      simp only [Act.put, List.setIfInBounds_toArray, List.set_cons_zero, List.set_cons_succ, i64_w, i32_w]
                      rfl
                    refine pure_ (i := 3) (N := some 6) (v := ?_) (a' := ?_) #[true, true, true, true, false, true, true, false, false, false, true, true, false, false, false, true, true, false, false, false, true, true, true, true, false, false] rfl rfl (any_of HT_.out (by kernel_rfl)) (fun _ _ _ h => h) (Or.inl ⟨by rfl, ?_⟩) ?_ ?_
                    rotate_left
                    · intro w'
                      go_simp
                      with_reducible rfl
                    rotate_left
                    · simp only [Act.put, List.setIfInBounds_toArray, List.set_cons_zero, List.set_cons_succ, i64_w, i32_w]
                      rfl
                    refine pure_ (i := 4) (N := some 7) (v := ?_) (a' := ?_) #[true, true, true, true, true, true, true, false, false, false, true, true, false, false, false, true, true, false, false, false, true, true, true, true, false, false] rfl rfl (any_of HT_.out (by kernel_rfl)) (fun _ _ _ h => h) (Or.inl ⟨by rfl, ?_⟩) ?_ ?_
                    rotate_left
                    · intro w'
                      go_simp
                      with_reducible rfl
                    rotate_left
                    · simp only [Act.put, List.setIfInBounds_toArray, List.set_cons_zero, List.set_cons_succ, i64_w, i32_w]
                      rfl
                    refine one_ (i := 7) (N := some 10) #[true, true, true, true, true, true, true, true, false, false, true, true, false, false, false, true, true, false, false, false, true, true, true, true, false, false] rfl rfl (one_of HT_.out (by kernel_rfl)) (by decide) (fun K hK => ?_)
                    refine goes_ Tryd.func49 (by kernel_rfl) rfl #[.int .i64 a0_1] (by rfl) rfl rfl argsB ?_
                    with_reducible refine (impl_decimal.calls a0_1 t138 _ A5.out (TabW.up2 hTW HB.out)).mono ?_
                    rintro e w18 ⟨rfl, hb⟩
                    refine ⟨_, rfl, ?_⟩
                    have n0_ := Aside0.mk (blk_below (g := gb136) (o := .cells #[.int .i64 a0_0, .int .i64 a0_1, .int .i64 a0_2, .int .i64 a0_3, .int .i64 a0_4] 26 (0, 0)) (upK BK136.out) hb)
                    have n1_ := Aside0.mk (below_step (upB1 HB.out GE136.out) hb)
                    clear BK136
                    clear HB
                    have BK136 := n0_
                    have HB := n1_
                    clear n0_ n1_
                    (try clear hb)
                    refine hK.out _ _ ⟨(blk_cell BK136.out 0).trans rfl, (blk_cell BK136.out 1).trans rfl, (blk_cell BK136.out 2).trans rfl, (blk_cell BK136.out 3).trans rfl, (blk_cell BK136.out 4).trans rfl, TabW.word hTW HB.out hg0_ hg1_⟩ (fun hHeld => ?_)
                    clear hK K
                    refine norm_ (a' := ?_) ?_ ?_
                    rotate_left
                    · show Act.put _ (some 10) _ = _
                      simp only [Act.put, List.setIfInBounds_toArray, List.set_cons_zero, List.set_cons_succ, i64_w, i32_w]
                      rfl
                    refine pure_ (i := 8) (N := some 11) (v := ?_) (a' := ?_) #[true, true, true, true, true, true, true, true, true, false, true, true, false, false, false, true, true, false, false, false, true, true, true, true, false, false] rfl rfl (any_of HT_.out (by kernel_rfl)) (fun _ _ _ h => h) (Or.inl ⟨by rfl, ?_⟩) ?_ ?_
                    rotate_left
                    · intro w'
                      go_simp
                      with_reducible rfl
                    rotate_left
                    · simp only [Act.put, List.setIfInBounds_toArray, List.set_cons_zero, List.set_cons_succ, i64_w, i32_w]
                      rfl
                    refine pure_ (i := 9) (N := some 12) (v := ?_) (a' := ?_) #[true, true, true, true, true, true, true, true, true, true, true, true, false, false, false, true, true, false, false, false, true, true, true, true, false, false] rfl rfl (any_of HT_.out (by kernel_rfl)) (fun _ _ _ h => h) (Or.inl ⟨by rfl, ?_⟩) ?_ ?_
                    rotate_left
                    · intro w'
                      go_simp
                      with_reducible rfl
                    rotate_left
                    · simp only [Act.put, List.setIfInBounds_toArray, List.set_cons_zero, List.set_cons_succ, i64_w, i32_w]
                      rfl
                    refine one_ (i := 12) (N := some 15) #[true, true, true, true, true, true, true, true, true, true, true, true, true, false, false, true, true, false, false, false, true, true, true, true, false, false] rfl rfl (one_of HT_.out (by kernel_rfl)) (by decide) (fun K hK => ?_)
                    refine goes_ Tryd.func49 (by kernel_rfl) rfl #[.int .i64 a0_2] (by rfl) rfl rfl argsB ?_
                    with_reducible refine (impl_decimal.calls a0_2 t139 _ A8.out (TabW.up2 hTW HB.out)).mono ?_
                    rintro e w19 ⟨rfl, hb⟩
                    refine ⟨_, rfl, ?_⟩
                    have n0_ := Aside0.mk (blk_below (g := gb136) (o := .cells #[.int .i64 a0_0, .int .i64 a0_1, .int .i64 a0_2, .int .i64 a0_3, .int .i64 a0_4] 26 (0, 0)) (upK BK136.out) hb)
                    have n1_ := Aside0.mk (below_step (upB1 HB.out GE136.out) hb)
                    clear BK136
                    clear HB
                    have BK136 := n0_
                    have HB := n1_
                    clear n0_ n1_
                    (try clear hb)
                    refine hK.out _ _ ⟨(blk_cell BK136.out 0).trans rfl, (blk_cell BK136.out 1).trans rfl, (blk_cell BK136.out 2).trans rfl, (blk_cell BK136.out 3).trans rfl, (blk_cell BK136.out 4).trans rfl, TabW.word hTW HB.out hg0_ hg1_⟩ (fun hHeld => ?_)
                    clear hK K
                    refine norm_ (a' := ?_) ?_ ?_
                    rotate_left
                    · show Act.put _ (some 15) _ = _
                      simp only [Act.put, List.setIfInBounds_toArray, List.set_cons_zero, List.set_cons_succ, i64_w, i32_w]
                      rfl
                    refine pure_ (i := 13) (N := some 16) (v := ?_) (a' := ?_) #[true, true, true, true, true, true, true, true, true, true, true, true, true, true, false, true, true, false, false, false, true, true, true, true, false, false] rfl rfl (any_of HT_.out (by kernel_rfl)) (fun _ _ _ h => h) (Or.inl ⟨by rfl, ?_⟩) ?_ ?_
                    rotate_left
                    · intro w'
                      go_simp
                      with_reducible rfl
                    rotate_left
                    · simp only [Act.put, List.setIfInBounds_toArray, List.set_cons_zero, List.set_cons_succ, i64_w, i32_w]
                      rfl
                    refine pure_ (i := 14) (N := some 17) (v := ?_) (a' := ?_) #[true, true, true, true, true, true, true, true, true, true, true, true, true, true, true, true, true, false, false, false, true, true, true, true, false, false] rfl rfl (any_of HT_.out (by kernel_rfl)) (fun _ _ _ h => h) (Or.inl ⟨by rfl, ?_⟩) ?_ ?_
                    rotate_left
                    · intro w'
                      go_simp
                      with_reducible rfl
                    rotate_left
                    · simp only [Act.put, List.setIfInBounds_toArray, List.set_cons_zero, List.set_cons_succ, i64_w, i32_w]
                      rfl
                    refine one_ (i := 17) (N := some 20) #[true, true, true, true, true, true, true, true, true, true, true, true, true, true, true, true, true, true, false, false, true, true, true, true, false, false] rfl rfl (one_of HT_.out (by kernel_rfl)) (by decide) (fun K hK => ?_)
                    refine goes_ Tryd.func49 (by kernel_rfl) rfl #[.int .i64 a0_3] (by rfl) rfl rfl argsB ?_
                    with_reducible refine (impl_decimal.calls a0_3 t140 _ A11.out (TabW.up2 hTW HB.out)).mono ?_
                    rintro e w20 ⟨rfl, hb⟩
                    refine ⟨_, rfl, ?_⟩
                    have n0_ := Aside0.mk (blk_below (g := gb136) (o := .cells #[.int .i64 a0_0, .int .i64 a0_1, .int .i64 a0_2, .int .i64 a0_3, .int .i64 a0_4] 26 (0, 0)) (upK BK136.out) hb)
                    have n1_ := Aside0.mk (below_step (upB1 HB.out GE136.out) hb)
                    clear BK136
                    clear HB
                    have BK136 := n0_
                    have HB := n1_
                    clear n0_ n1_
                    (try clear hb)
                    refine hK.out _ _ ⟨(blk_cell BK136.out 0).trans rfl, (blk_cell BK136.out 1).trans rfl, (blk_cell BK136.out 2).trans rfl, (blk_cell BK136.out 3).trans rfl, (blk_cell BK136.out 4).trans rfl, TabW.word hTW HB.out hg0_ hg1_⟩ (fun hHeld => ?_)
                    clear hK K
                    refine norm_ (a' := ?_) ?_ ?_
                    rotate_left
                    · show Act.put _ (some 20) _ = _
                      simp only [Act.put, List.setIfInBounds_toArray, List.set_cons_zero, List.set_cons_succ, i64_w, i32_w]
                      rfl
                    refine pure_ (i := 18) (N := some 21) (v := ?_) (a' := ?_) #[true, true, true, true, true, true, true, true, true, true, true, true, true, true, true, true, true, true, true, false, true, true, true, true, false, false] rfl rfl (any_of HT_.out (by kernel_rfl)) (fun _ _ _ h => h) (Or.inl ⟨by rfl, ?_⟩) ?_ ?_
                    rotate_left
                    · intro w'
                      go_simp
                      with_reducible rfl
                    rotate_left
                    · simp only [Act.put, List.setIfInBounds_toArray, List.set_cons_zero, List.set_cons_succ, i64_w, i32_w]
                      rfl
                    refine pure_ (i := 19) (N := some 22) (v := ?_) (a' := ?_) #[true, true, true, true, true, true, true, true, true, true, true, true, true, true, true, true, true, true, true, true, true, true, true, true, false, false] rfl rfl (any_of HT_.out (by kernel_rfl)) (fun _ _ _ h => h) (Or.inl ⟨by rfl, ?_⟩) ?_ ?_
                    rotate_left
                    · intro w'
                      go_simp
                      with_reducible rfl
                    rotate_left
                    · simp only [Act.put, List.setIfInBounds_toArray, List.set_cons_zero, List.set_cons_succ, i64_w, i32_w]
                      rfl
                    refine pure_ (i := 24) (N := some 27) (v := ?_) (a' := ?_) #[true, true, true, true, true, true, true, true, true, true, true, true, true, true, true, true, true, true, true, true, true, true, true, true, true, false] rfl rfl (any_of HT_.out (by kernel_rfl)) (fun _ _ _ h => h) (Or.inl ⟨by rfl, ?_⟩) ?_ ?_
                    rotate_left
                    · intro w'
                      go_simp
                      with_reducible rfl
                    rotate_left
                    · simp only [Act.put, List.setIfInBounds_toArray, List.set_cons_zero, List.set_cons_succ, i64_w, i32_w]
                      rfl
                    refine pure_ (i := 25) (N := some 2) (v := ?_) (a' := ?_) #[true, true, true, true, true, true, true, true, true, true, true, true, true, true, true, true, true, true, true, true, true, true, true, true, true, true] rfl rfl (any_of HT_.out (by kernel_rfl)) (fun _ _ _ h => h) (Or.inl ⟨by rfl, ?_⟩) ?_ ?_
                    rotate_left
                    · intro w'
                      go_simp
                      with_reducible rfl
                    rotate_left
                    · simp only [Act.put, List.setIfInBounds_toArray, List.set_cons_zero, List.set_cons_succ, i64_w, i32_w]
                      rfl
                    refine done_ (done_of HT_.out (by kernel_rfl)) ?_
                    try go_wp2
                    go_ret
                    exact ⟨by first | rfl | (simp [errW_none, errW_some] <;> rfl) | (simp [*, errW_none, errW_some] <;> rfl), (upB1 HB.out GE136.out)⟩
                  · rw [if_neg c14] at H
                    exact absurd H (by simp)
                · rw [if_neg c13] at H
                  exact absurd H (by simp)
              · rw [if_neg c12] at H
                exact absurd H (by simp)
            · rw [if_neg c10] at H
              exact absurd H (by simp)
          · rw [if_neg c9] at H
            exact absurd H (by simp)
        · rw [if_neg c7] at H
          exact absurd H (by simp)
      · rw [if_neg c6] at H
        exact absurd H (by simp)
    · rw [if_neg c4] at H
      exact absurd H (by simp)
  · rw [if_neg c3] at H
    exact absurd H (by simp)

/-! ### impl_LeadText: function 8 -/
def impl_LeadText.f (a0_0 : Int) (a0_1 : Int) (a0_2 : Int) (a0_3 : Int) (a0_4 : Int) : Option (ByteArray × Bool) := (impl_IsLead.f a0_0 a0_1 a0_2 a0_3 a0_4).bind fun t142 => (if t142 = true then ((impl_leadText.f a0_0 a0_1 a0_2 a0_3 a0_4).bind fun t143 => (some (t143, true))) else (some ((⟨#[]⟩ : ByteArray), false)))
set_option maxHeartbeats 8000000 in
set_option maxRecDepth 100000 in
theorem impl_LeadText.calls (a0_0 : Int) (a0_1 : Int) (a0_2 : Int) (a0_3 : Int) (a0_4 : Int) (r1 : ByteArray) (r2 : Bool) (w : World) (h : impl_LeadText.f a0_0 a0_1 a0_2 a0_3 a0_4 = some (r1, r2)) (hTW : TabW w) :
    Calls Tryd.prog 8 #[.agg #[.int .i64 a0_0, .int .i64 a0_1, .int .i64 a0_2, .int .i64 a0_3, .int .i64 a0_4]] w fun e w' => e = .returned (.tuple #[.string r1, .bool r2]) ∧ Below w.heap.size w w' := by
  have hu26 := Tryd.underlying26
  have HB := Aside0.mk (Below.refl w.heap.size w)
  have H : ((impl_IsLead.f a0_0 a0_1 a0_2 a0_3 a0_4).bind fun t142 => (if t142 = true then ((impl_leadText.f a0_0 a0_1 a0_2 a0_3 a0_4).bind fun t143 => (some (t143, true))) else (some ((⟨#[]⟩ : ByteArray), false)))) = some (r1, r2) := h
  clear h
  replace H := Option.bind_eq_some_iff.mp H
  obtain ⟨t142, A20, H⟩ := H
  replace H : (if t142 = true then ((impl_leadText.f a0_0 a0_1 a0_2 a0_3 a0_4).bind fun t143 => (some (t143, true))) else (some ((⟨#[]⟩ : ByteArray), false))) = some (r1, r2) := H
  have A2 := Aside0.mk A20
  clear A20
  by_cases c3 : t142 = true
  · subst c3
    have H1 : ((impl_leadText.f a0_0 a0_1 a0_2 a0_3 a0_4).bind fun t143 => (some (t143, true))) = some (r1, r2) := by rw [if_pos rfl] at H; exact H
    clear H
    have H := H1
    clear H1
    replace H := Option.bind_eq_some_iff.mp H
    obtain ⟨t143, A40, H⟩ := H
    replace H : (some (t143, true)) = some (r1, r2) := H
    have A4 := Aside0.mk A40
    clear A40
    simp only [Option.some.injEq, Prod.mk.injEq] at H
    obtain ⟨rfl, rfl⟩ := H
    go_enter Tryd.func8, Tryd.ntmps8
    go_wp2_with (first | ((with_reducible refine gate_dst (N := 1) rfl ?_); refine box_event ?hg (N := 1) ?hd (cs := #[.int .i64 a0_0, .int .i64 a0_1, .int .i64 a0_2, .int .i64 a0_3, .int .i64 a0_4]) (t := 26) ?hr ?_; (case hd => rfl); (case hg => rfl); (case hr => first | (go_simp; done) | (go_simp; rfl)); intro gb141 hg w5 hbox hb; have n0_ := Aside0.mk (below_step (upB HB.out) hb); have n1_ := Aside0.mk (hbox); have n2_ := Aside0.mk ((by rw [hg]; exact (below_size (upB HB.out)) : w.heap.size ≤ gb141)); have n3_ := Aside0.mk ((by rw [hg]; exact (below_size (upB HB.out)) : w.heap.size ≤ gb141)); clear HB; have HB := n0_; have BK141 := n1_; have GW141 := n2_; have GE141 := n3_; clear n0_ n1_ n2_ n3_; clear hb hbox hg; have hcz6_0 := ci BK141.out 0 a0_0 rfl; have hcz6_1 := ci BK141.out 1 a0_1 rfl; have hcz6_2 := ci BK141.out 2 a0_2 rfl; have hcz6_3 := ci BK141.out 3 a0_3 rfl; have hcz6_4 := ci BK141.out 4 a0_4 rfl; have hfz6_0 := fun j_ : Nat => blk_frozen BK141.out j_) | ((with_reducible refine gate_callee (f := 14) rfl ?_); refine goesL_ (some 5) rfl rfl Tryd.func14 (by kernel_rfl) rfl #[.agg #[.int .i64 a0_0, .int .i64 a0_1, .int .i64 a0_2, .int .i64 a0_3, .int .i64 a0_4]] rfl argsB ?_; (with_reducible refine (impl_IsLead.calls a0_0 a0_1 a0_2 a0_3 a0_4 true _ A2.out).mono ?_); rintro e w7 ⟨rfl, hb⟩; refine ⟨_, rfl, ?_⟩; have n0_ := Aside0.mk (blk_below (g := gb141) (o := .cells #[.int .i64 a0_0, .int .i64 a0_1, .int .i64 a0_2, .int .i64 a0_3, .int .i64 a0_4] 26 (0, 0)) (upK BK141.out) hb); have n1_ := Aside0.mk (below_step (upB1 HB.out GE141.out) hb); clear BK141; clear HB; have BK141 := n0_; have HB := n1_; clear n0_ n1_; (try clear hb); have hcz8_0 := ci BK141.out 0 a0_0 rfl; have hcz8_1 := ci BK141.out 1 a0_1 rfl; have hcz8_2 := ci BK141.out 2 a0_2 rfl; have hcz8_3 := ci BK141.out 3 a0_3 rfl; have hcz8_4 := ci BK141.out 4 a0_4 rfl; have hfz8_0 := fun j_ : Nat => blk_frozen BK141.out j_) | ((with_reducible refine gate_callee (f := 26) rfl ?_); refine goesL_ (some 8) rfl rfl Tryd.func26 (by kernel_rfl) rfl #[.agg #[.int .i64 a0_0, .int .i64 a0_1, .int .i64 a0_2, .int .i64 a0_3, .int .i64 a0_4]] rfl argsB ?_; (with_reducible refine (impl_leadText.calls a0_0 a0_1 a0_2 a0_3 a0_4 t143 _ A4.out (TabW.up2 hTW HB.out)).mono ?_); rintro e w9 ⟨rfl, hb⟩; refine ⟨_, rfl, ?_⟩; have n0_ := Aside0.mk (blk_below (g := gb141) (o := .cells #[.int .i64 a0_0, .int .i64 a0_1, .int .i64 a0_2, .int .i64 a0_3, .int .i64 a0_4] 26 (0, 0)) (upK BK141.out) hb); have n1_ := Aside0.mk (below_step (upB1 HB.out GE141.out) hb); clear BK141; clear HB; have BK141 := n0_; have HB := n1_; clear n0_ n1_; (try clear hb)))
    go_ret2
    exact ⟨by first | rfl | (simp [errW_none, errW_some] <;> rfl) | (simp [*, errW_none, errW_some] <;> rfl), (upB1 HB.out GE141.out)⟩
  · replace c3 := Bool.eq_false_iff.mpr c3
    subst c3
    have H1 : (some ((⟨#[]⟩ : ByteArray), false)) = some (r1, r2) := by rw [if_neg (show ¬ (false = true) by decide)] at H; exact H
    clear H
    have H := H1
    clear H1
    simp only [Option.some.injEq, Prod.mk.injEq] at H
    obtain ⟨rfl, rfl⟩ := H
    go_enter Tryd.func8, Tryd.ntmps8
    go_wp2_with (first | ((with_reducible refine gate_dst (N := 1) rfl ?_); refine box_event ?hg (N := 1) ?hd (cs := #[.int .i64 a0_0, .int .i64 a0_1, .int .i64 a0_2, .int .i64 a0_3, .int .i64 a0_4]) (t := 26) ?hr ?_; (case hd => rfl); (case hg => rfl); (case hr => first | (go_simp; done) | (go_simp; rfl)); intro gb141 hg w10 hbox hb; have n0_ := Aside0.mk (below_step (upB HB.out) hb); have n1_ := Aside0.mk (hbox); have n2_ := Aside0.mk ((by rw [hg]; exact (below_size (upB HB.out)) : w.heap.size ≤ gb141)); have n3_ := Aside0.mk ((by rw [hg]; exact (below_size (upB HB.out)) : w.heap.size ≤ gb141)); clear HB; have HB := n0_; have BK141 := n1_; have GW141 := n2_; have GE141 := n3_; clear n0_ n1_ n2_ n3_; clear hb hbox hg; have hcz11_0 := ci BK141.out 0 a0_0 rfl; have hcz11_1 := ci BK141.out 1 a0_1 rfl; have hcz11_2 := ci BK141.out 2 a0_2 rfl; have hcz11_3 := ci BK141.out 3 a0_3 rfl; have hcz11_4 := ci BK141.out 4 a0_4 rfl; have hfz11_0 := fun j_ : Nat => blk_frozen BK141.out j_) | ((with_reducible refine gate_callee (f := 14) rfl ?_); refine goesL_ (some 5) rfl rfl Tryd.func14 (by kernel_rfl) rfl #[.agg #[.int .i64 a0_0, .int .i64 a0_1, .int .i64 a0_2, .int .i64 a0_3, .int .i64 a0_4]] rfl argsB ?_; (with_reducible refine (impl_IsLead.calls a0_0 a0_1 a0_2 a0_3 a0_4 false _ A2.out).mono ?_); rintro e w12 ⟨rfl, hb⟩; refine ⟨_, rfl, ?_⟩; have n0_ := Aside0.mk (blk_below (g := gb141) (o := .cells #[.int .i64 a0_0, .int .i64 a0_1, .int .i64 a0_2, .int .i64 a0_3, .int .i64 a0_4] 26 (0, 0)) (upK BK141.out) hb); have n1_ := Aside0.mk (below_step (upB1 HB.out GE141.out) hb); clear BK141; clear HB; have BK141 := n0_; have HB := n1_; clear n0_ n1_; (try clear hb)))
    go_ret2
    exact ⟨by first | rfl | (simp [errW_none, errW_some] <;> rfl) | (simp [*, errW_none, errW_some] <;> rfl), (upB1 HB.out GE141.out)⟩

/-! ### laws_FnExactLeadText: function 3 -/
def laws_FnExactLeadText.f (k : Nat) (a0_0 : Int) (a0_1 : Int) (a0_2 : Int) (a0_3 : Int) (a0_4 : Int) : Option (Bool) := (laws_toLead.f a0_0 a0_1 a0_2 a0_3 a0_4).bind fun bt145 => ((spec_LeadText.f k bt145.1 bt145.2.1 bt145.2.2.1 bt145.2.2.2.1 bt145.2.2.2.2).bind fun bt150 => ((laws_toLead.f a0_0 a0_1 a0_2 a0_3 a0_4).bind fun bt152 => ((impl_LeadText.f bt152.1 bt152.2.1 bt152.2.2.1 bt152.2.2.2.1 bt152.2.2.2.2).bind fun bt157 => (if bt157.1.toList = bt150.1.toList then (if (bt157.2 != bt150.2) = true then (some false) else (some true)) else (some false)))))
theorem laws_FnExactLeadText.mono : ∀ a0 a1 a2 a3 a4 k, LeO (laws_FnExactLeadText.f k a0 a1 a2 a3 a4) (laws_FnExactLeadText.f (k + 1) a0 a1 a2 a3 a4) := by
  intro a0 a1 a2 a3 a4 k
  unfold laws_FnExactLeadText.f
  repeat' first
      | (with_reducible exact spec_LeadText.mono _ _ _ _ _ _)
      | (with_reducible exact LeO.refl _)
      | (with_reducible exact LeO.none _)
      | (with_reducible refine LeO.ite ?_ ?_)
      | (with_reducible refine LeO.bind ?_ (fun _ => ?_))
      | exact spec_LeadText.mono _ _ _ _ _ _
      | exact LeO.none _
      | refine LeO.ite ?_ ?_
      | refine LeO.bind ?_ (fun _ => ?_)
set_option maxHeartbeats 8000000 in
set_option maxRecDepth 100000 in
theorem laws_FnExactLeadText.calls (k : Nat) (a0_0 : Int) (a0_1 : Int) (a0_2 : Int) (a0_3 : Int) (a0_4 : Int) (r : Bool) (w : World) (h : laws_FnExactLeadText.f k a0_0 a0_1 a0_2 a0_3 a0_4 = some r) (hTW : TabW w) :
    Calls Tryd.prog 3 #[.agg #[.int .i64 a0_0, .int .i64 a0_1, .int .i64 a0_2, .int .i64 a0_3, .int .i64 a0_4]] w fun e w' => e = .returned (.bool r) ∧ Below w.heap.size w w' := by
  have hu23 := Tryd.underlying23
  have HB := Aside0.mk (Below.refl w.heap.size w)
  have H : ((laws_toLead.f a0_0 a0_1 a0_2 a0_3 a0_4).bind fun bt145 => ((spec_LeadText.f k bt145.1 bt145.2.1 bt145.2.2.1 bt145.2.2.2.1 bt145.2.2.2.2).bind fun bt150 => ((laws_toLead.f a0_0 a0_1 a0_2 a0_3 a0_4).bind fun bt152 => ((impl_LeadText.f bt152.1 bt152.2.1 bt152.2.2.1 bt152.2.2.2.1 bt152.2.2.2.2).bind fun bt157 => (if bt157.1.toList = bt150.1.toList then (if (bt157.2 != bt150.2) = true then (some false) else (some true)) else (some false)))))) = some r := h
  clear h
  replace H := Option.bind_eq_some_iff.mp H
  obtain ⟨⟨t145, t146, t147, t148, t149⟩, A20, H⟩ := H
  replace H : ((spec_LeadText.f k t145 t146 t147 t148 t149).bind fun bt150 => ((laws_toLead.f a0_0 a0_1 a0_2 a0_3 a0_4).bind fun bt152 => ((impl_LeadText.f bt152.1 bt152.2.1 bt152.2.2.1 bt152.2.2.2.1 bt152.2.2.2.2).bind fun bt157 => (if bt157.1.toList = bt150.1.toList then (if (bt157.2 != bt150.2) = true then (some false) else (some true)) else (some false))))) = some r := H
  have A2 := Aside0.mk A20
  clear A20
  replace H := Option.bind_eq_some_iff.mp H
  obtain ⟨⟨t150, t151⟩, A30, H⟩ := H
  replace H : ((laws_toLead.f a0_0 a0_1 a0_2 a0_3 a0_4).bind fun bt152 => ((impl_LeadText.f bt152.1 bt152.2.1 bt152.2.2.1 bt152.2.2.2.1 bt152.2.2.2.2).bind fun bt157 => (if bt157.1.toList = t150.toList then (if (bt157.2 != t151) = true then (some false) else (some true)) else (some false)))) = some r := H
  have A3 := Aside0.mk A30
  clear A30
  replace H := Option.bind_eq_some_iff.mp H
  obtain ⟨⟨t152, t153, t154, t155, t156⟩, A40, H⟩ := H
  replace H : ((impl_LeadText.f t152 t153 t154 t155 t156).bind fun bt157 => (if bt157.1.toList = t150.toList then (if (bt157.2 != t151) = true then (some false) else (some true)) else (some false))) = some r := H
  have A4 := Aside0.mk A40
  clear A40
  replace H := Option.bind_eq_some_iff.mp H
  obtain ⟨⟨t157, t158⟩, A50, H⟩ := H
  replace H : (if t157.toList = t150.toList then (if (t158 != t151) = true then (some false) else (some true)) else (some false)) = some r := H
  have A5 := Aside0.mk A50
  clear A50
  by_cases c6 : t157.toList = t150.toList
  · rw [if_pos c6] at H
    have c6b0 : (t157.toList == t150.toList) = true := beq_iff_eq.mpr c6
    have c6b1 : (t157.toList != t150.toList) = false := bne_eq_false_iff_eq.mpr c6
    clear c6
    by_cases c7 : (t158 != t151) = true
    · rw [if_pos c7] at H
      have c7b0 : (t158 != t151) = true := c7
      (try (have c7b1 : decide (t158 = t151) = false := by simpa using c7))
      (try (have c7b2 : (t158 == t151) = false := by simpa using c7))
      (try (have c7b3 : ¬ (t158 = t151) := by simpa using c7))
      clear c7
      obtain rfl := Option.some.inj H
      go_enter Tryd.func3, Tryd.ntmps3
      go_wp2_with (first | ((with_reducible refine gate_dst (N := 1) rfl ?_); refine box_event ?hg (N := 1) ?hd (cs := #[.int .i64 a0_0, .int .i64 a0_1, .int .i64 a0_2, .int .i64 a0_3, .int .i64 a0_4]) (t := 23) ?hr ?_; (case hd => rfl); (case hg => rfl); (case hr => first | (go_simp; done) | (go_simp; rfl)); intro gb144 hg w8 hbox hb; have n0_ := Aside0.mk (below_step (upB HB.out) hb); have n1_ := Aside0.mk (hbox); have n2_ := Aside0.mk ((by rw [hg]; exact (below_size (upB HB.out)) : w.heap.size ≤ gb144)); have n3_ := Aside0.mk ((by rw [hg]; exact (below_size (upB HB.out)) : w.heap.size ≤ gb144)); clear HB; have HB := n0_; have BK144 := n1_; have GW144 := n2_; have GE144 := n3_; clear n0_ n1_ n2_ n3_; clear hb hbox hg; have hcz9_0 := ci BK144.out 0 a0_0 rfl; have hcz9_1 := ci BK144.out 1 a0_1 rfl; have hcz9_2 := ci BK144.out 2 a0_2 rfl; have hcz9_3 := ci BK144.out 3 a0_3 rfl; have hcz9_4 := ci BK144.out 4 a0_4 rfl; have hfz9_0 := fun j_ : Nat => blk_frozen BK144.out j_) | ((with_reducible refine gate_callee (f := 7) rfl ?_); refine goesL_ (some 9) rfl rfl Tryd.func7 (by kernel_rfl) rfl #[.agg #[.int .i64 a0_0, .int .i64 a0_1, .int .i64 a0_2, .int .i64 a0_3, .int .i64 a0_4]] rfl argsB ?_; (with_reducible refine (laws_toLead.calls a0_0 a0_1 a0_2 a0_3 a0_4 t145 t146 t147 t148 t149 _ A2.out).mono ?_); rintro e w10 ⟨rfl, hb⟩; refine ⟨_, rfl, ?_⟩; have n0_ := Aside0.mk (blk_below (g := gb144) (o := .cells #[.int .i64 a0_0, .int .i64 a0_1, .int .i64 a0_2, .int .i64 a0_3, .int .i64 a0_4] 23 (0, 0)) (upK BK144.out) hb); have n1_ := Aside0.mk (below_step (upB1 HB.out GE144.out) hb); clear BK144; clear HB; have BK144 := n0_; have HB := n1_; clear n0_ n1_; (try clear hb)) | ((with_reducible refine gate_callee (f := 6) rfl ?_); refine goesL_ (some 10) rfl rfl Tryd.func6 (by kernel_rfl) rfl #[.agg #[.int .i64 t145, .int .i64 t146, .int .i64 t147, .int .i64 t148, .int .i64 t149]] rfl argsB ?_; (with_reducible refine (spec_LeadText.calls k t145 t146 t147 t148 t149 t150 t151 _ A3.out).mono ?_); rintro e w11 ⟨rfl, hb⟩; refine ⟨_, rfl, ?_⟩; have n0_ := Aside0.mk (blk_below (g := gb144) (o := .cells #[.int .i64 a0_0, .int .i64 a0_1, .int .i64 a0_2, .int .i64 a0_3, .int .i64 a0_4] 23 (0, 0)) (upK BK144.out) hb); have n1_ := Aside0.mk (below_step (upB1 HB.out GE144.out) hb); clear BK144; clear HB; have BK144 := n0_; have HB := n1_; clear n0_ n1_; (try clear hb); have hcz12_0 := ci BK144.out 0 a0_0 rfl; have hcz12_1 := ci BK144.out 1 a0_1 rfl; have hcz12_2 := ci BK144.out 2 a0_2 rfl; have hcz12_3 := ci BK144.out 3 a0_3 rfl; have hcz12_4 := ci BK144.out 4 a0_4 rfl; have hfz12_0 := fun j_ : Nat => blk_frozen BK144.out j_) | ((with_reducible refine gate_callee (f := 7) rfl ?_); refine goesL_ (some 15) rfl rfl Tryd.func7 (by kernel_rfl) rfl #[.agg #[.int .i64 a0_0, .int .i64 a0_1, .int .i64 a0_2, .int .i64 a0_3, .int .i64 a0_4]] rfl argsB ?_; (with_reducible refine (laws_toLead.calls a0_0 a0_1 a0_2 a0_3 a0_4 t152 t153 t154 t155 t156 _ A4.out).mono ?_); rintro e w13 ⟨rfl, hb⟩; refine ⟨_, rfl, ?_⟩; have n0_ := Aside0.mk (blk_below (g := gb144) (o := .cells #[.int .i64 a0_0, .int .i64 a0_1, .int .i64 a0_2, .int .i64 a0_3, .int .i64 a0_4] 23 (0, 0)) (upK BK144.out) hb); have n1_ := Aside0.mk (below_step (upB1 HB.out GE144.out) hb); clear BK144; clear HB; have BK144 := n0_; have HB := n1_; clear n0_ n1_; (try clear hb)) | ((with_reducible refine gate_callee (f := 8) rfl ?_); refine goesL_ (some 16) rfl rfl Tryd.func8 (by kernel_rfl) rfl #[.agg #[.int .i64 t152, .int .i64 t153, .int .i64 t154, .int .i64 t155, .int .i64 t156]] rfl argsB ?_; (with_reducible refine (impl_LeadText.calls t152 t153 t154 t155 t156 t157 t158 _ A5.out (TabW.up2 hTW HB.out)).mono ?_); rintro e w14 ⟨rfl, hb⟩; refine ⟨_, rfl, ?_⟩; have n0_ := Aside0.mk (blk_below (g := gb144) (o := .cells #[.int .i64 a0_0, .int .i64 a0_1, .int .i64 a0_2, .int .i64 a0_3, .int .i64 a0_4] 23 (0, 0)) (upK BK144.out) hb); have n1_ := Aside0.mk (below_step (upB1 HB.out GE144.out) hb); clear BK144; clear HB; have BK144 := n0_; have HB := n1_; clear n0_ n1_; (try clear hb)))
      go_ret
      exact ⟨by first | rfl | (simp [errW_none, errW_some] <;> rfl) | (simp [*, errW_none, errW_some] <;> rfl), (upB1 HB.out GE144.out)⟩
    · rw [if_neg c7] at H
      have c7b0 : (t158 != t151) = false := by simpa using c7
      (try (have c7b1 : decide (t158 = t151) = true := by simpa using c7))
      (try (have c7b2 : (t158 == t151) = true := by simpa using c7))
      clear c7
      obtain rfl := Option.some.inj H
      go_enter Tryd.func3, Tryd.ntmps3
      go_wp2_with (first | ((with_reducible refine gate_dst (N := 1) rfl ?_); refine box_event ?hg (N := 1) ?hd (cs := #[.int .i64 a0_0, .int .i64 a0_1, .int .i64 a0_2, .int .i64 a0_3, .int .i64 a0_4]) (t := 23) ?hr ?_; (case hd => rfl); (case hg => rfl); (case hr => first | (go_simp; done) | (go_simp; rfl)); intro gb144 hg w15 hbox hb; have n0_ := Aside0.mk (below_step (upB HB.out) hb); have n1_ := Aside0.mk (hbox); have n2_ := Aside0.mk ((by rw [hg]; exact (below_size (upB HB.out)) : w.heap.size ≤ gb144)); have n3_ := Aside0.mk ((by rw [hg]; exact (below_size (upB HB.out)) : w.heap.size ≤ gb144)); clear HB; have HB := n0_; have BK144 := n1_; have GW144 := n2_; have GE144 := n3_; clear n0_ n1_ n2_ n3_; clear hb hbox hg; have hcz16_0 := ci BK144.out 0 a0_0 rfl; have hcz16_1 := ci BK144.out 1 a0_1 rfl; have hcz16_2 := ci BK144.out 2 a0_2 rfl; have hcz16_3 := ci BK144.out 3 a0_3 rfl; have hcz16_4 := ci BK144.out 4 a0_4 rfl; have hfz16_0 := fun j_ : Nat => blk_frozen BK144.out j_) | ((with_reducible refine gate_callee (f := 7) rfl ?_); refine goesL_ (some 9) rfl rfl Tryd.func7 (by kernel_rfl) rfl #[.agg #[.int .i64 a0_0, .int .i64 a0_1, .int .i64 a0_2, .int .i64 a0_3, .int .i64 a0_4]] rfl argsB ?_; (with_reducible refine (laws_toLead.calls a0_0 a0_1 a0_2 a0_3 a0_4 t145 t146 t147 t148 t149 _ A2.out).mono ?_); rintro e w17 ⟨rfl, hb⟩; refine ⟨_, rfl, ?_⟩; have n0_ := Aside0.mk (blk_below (g := gb144) (o := .cells #[.int .i64 a0_0, .int .i64 a0_1, .int .i64 a0_2, .int .i64 a0_3, .int .i64 a0_4] 23 (0, 0)) (upK BK144.out) hb); have n1_ := Aside0.mk (below_step (upB1 HB.out GE144.out) hb); clear BK144; clear HB; have BK144 := n0_; have HB := n1_; clear n0_ n1_; (try clear hb)) | ((with_reducible refine gate_callee (f := 6) rfl ?_); refine goesL_ (some 10) rfl rfl Tryd.func6 (by kernel_rfl) rfl #[.agg #[.int .i64 t145, .int .i64 t146, .int .i64 t147, .int .i64 t148, .int .i64 t149]] rfl argsB ?_; (with_reducible refine (spec_LeadText.calls k t145 t146 t147 t148 t149 t150 t151 _ A3.out).mono ?_); rintro e w18 ⟨rfl, hb⟩; refine ⟨_, rfl, ?_⟩; have n0_ := Aside0.mk (blk_below (g := gb144) (o := .cells #[.int .i64 a0_0, .int .i64 a0_1, .int .i64 a0_2, .int .i64 a0_3, .int .i64 a0_4] 23 (0, 0)) (upK BK144.out) hb); have n1_ := Aside0.mk (below_step (upB1 HB.out GE144.out) hb); clear BK144; clear HB; have BK144 := n0_; have HB := n1_; clear n0_ n1_; (try clear hb); have hcz19_0 := ci BK144.out 0 a0_0 rfl; have hcz19_1 := ci BK144.out 1 a0_1 rfl; have hcz19_2 := ci BK144.out 2 a0_2 rfl; have hcz19_3 := ci BK144.out 3 a0_3 rfl; have hcz19_4 := ci BK144.out 4 a0_4 rfl; have hfz19_0 := fun j_ : Nat => blk_frozen BK144.out j_) | ((with_reducible refine gate_callee (f := 7) rfl ?_); refine goesL_ (some 15) rfl rfl Tryd.func7 (by kernel_rfl) rfl #[.agg #[.int .i64 a0_0, .int .i64 a0_1, .int .i64 a0_2, .int .i64 a0_3, .int .i64 a0_4]] rfl argsB ?_; (with_reducible refine (laws_toLead.calls a0_0 a0_1 a0_2 a0_3 a0_4 t152 t153 t154 t155 t156 _ A4.out).mono ?_); rintro e w20 ⟨rfl, hb⟩; refine ⟨_, rfl, ?_⟩; have n0_ := Aside0.mk (blk_below (g := gb144) (o := .cells #[.int .i64 a0_0, .int .i64 a0_1, .int .i64 a0_2, .int .i64 a0_3, .int .i64 a0_4] 23 (0, 0)) (upK BK144.out) hb); have n1_ := Aside0.mk (below_step (upB1 HB.out GE144.out) hb); clear BK144; clear HB; have BK144 := n0_; have HB := n1_; clear n0_ n1_; (try clear hb)) | ((with_reducible refine gate_callee (f := 8) rfl ?_); refine goesL_ (some 16) rfl rfl Tryd.func8 (by kernel_rfl) rfl #[.agg #[.int .i64 t152, .int .i64 t153, .int .i64 t154, .int .i64 t155, .int .i64 t156]] rfl argsB ?_; (with_reducible refine (impl_LeadText.calls t152 t153 t154 t155 t156 t157 t158 _ A5.out (TabW.up2 hTW HB.out)).mono ?_); rintro e w21 ⟨rfl, hb⟩; refine ⟨_, rfl, ?_⟩; have n0_ := Aside0.mk (blk_below (g := gb144) (o := .cells #[.int .i64 a0_0, .int .i64 a0_1, .int .i64 a0_2, .int .i64 a0_3, .int .i64 a0_4] 23 (0, 0)) (upK BK144.out) hb); have n1_ := Aside0.mk (below_step (upB1 HB.out GE144.out) hb); clear BK144; clear HB; have BK144 := n0_; have HB := n1_; clear n0_ n1_; (try clear hb)))
      go_ret
      exact ⟨by first | rfl | (simp [errW_none, errW_some] <;> rfl) | (simp [*, errW_none, errW_some] <;> rfl), (upB1 HB.out GE144.out)⟩
  · rw [if_neg c6] at H
    have c6b0 : (t157.toList == t150.toList) = false := beq_eq_false_iff_ne.mpr c6
    have c6b1 : (t157.toList != t150.toList) = true := bne_iff_ne.mpr c6
    obtain rfl := Option.some.inj H
    go_enter Tryd.func3, Tryd.ntmps3
    go_wp2_with (first | ((with_reducible refine gate_dst (N := 1) rfl ?_); refine box_event ?hg (N := 1) ?hd (cs := #[.int .i64 a0_0, .int .i64 a0_1, .int .i64 a0_2, .int .i64 a0_3, .int .i64 a0_4]) (t := 23) ?hr ?_; (case hd => rfl); (case hg => rfl); (case hr => first | (go_simp; done) | (go_simp; rfl)); intro gb144 hg w22 hbox hb; have n0_ := Aside0.mk (below_step (upB HB.out) hb); have n1_ := Aside0.mk (hbox); have n2_ := Aside0.mk ((by rw [hg]; exact (below_size (upB HB.out)) : w.heap.size ≤ gb144)); have n3_ := Aside0.mk ((by rw [hg]; exact (below_size (upB HB.out)) : w.heap.size ≤ gb144)); clear HB; have HB := n0_; have BK144 := n1_; have GW144 := n2_; have GE144 := n3_; clear n0_ n1_ n2_ n3_; clear hb hbox hg; have hcz23_0 := ci BK144.out 0 a0_0 rfl; have hcz23_1 := ci BK144.out 1 a0_1 rfl; have hcz23_2 := ci BK144.out 2 a0_2 rfl; have hcz23_3 := ci BK144.out 3 a0_3 rfl; have hcz23_4 := ci BK144.out 4 a0_4 rfl; have hfz23_0 := fun j_ : Nat => blk_frozen BK144.out j_) | ((with_reducible refine gate_callee (f := 7) rfl ?_); refine goesL_ (some 9) rfl rfl Tryd.func7 (by kernel_rfl) rfl #[.agg #[.int .i64 a0_0, .int .i64 a0_1, .int .i64 a0_2, .int .i64 a0_3, .int .i64 a0_4]] rfl argsB ?_; (with_reducible refine (laws_toLead.calls a0_0 a0_1 a0_2 a0_3 a0_4 t145 t146 t147 t148 t149 _ A2.out).mono ?_); rintro e w24 ⟨rfl, hb⟩; refine ⟨_, rfl, ?_⟩; have n0_ := Aside0.mk (blk_below (g := gb144) (o := .cells #[.int .i64 a0_0, .int .i64 a0_1, .int .i64 a0_2, .int .i64 a0_3, .int .i64 a0_4] 23 (0, 0)) (upK BK144.out) hb); have n1_ := Aside0.mk (below_step (upB1 HB.out GE144.out) hb); clear BK144; clear HB; have BK144 := n0_; have HB := n1_; clear n0_ n1_; (try clear hb)) | ((with_reducible refine gate_callee (f := 6) rfl ?_); refine goesL_ (some 10) rfl rfl Tryd.func6 (by kernel_rfl) rfl #[.agg #[.int .i64 t145, .int .i64 t146, .int .i64 t147, .int .i64 t148, .int .i64 t149]] rfl argsB ?_; (with_reducible refine (spec_LeadText.calls k t145 t146 t147 t148 t149 t150 t151 _ A3.out).mono ?_); rintro e w25 ⟨rfl, hb⟩; refine ⟨_, rfl, ?_⟩; have n0_ := Aside0.mk (blk_below (g := gb144) (o := .cells #[.int .i64 a0_0, .int .i64 a0_1, .int .i64 a0_2, .int .i64 a0_3, .int .i64 a0_4] 23 (0, 0)) (upK BK144.out) hb); have n1_ := Aside0.mk (below_step (upB1 HB.out GE144.out) hb); clear BK144; clear HB; have BK144 := n0_; have HB := n1_; clear n0_ n1_; (try clear hb); have hcz26_0 := ci BK144.out 0 a0_0 rfl; have hcz26_1 := ci BK144.out 1 a0_1 rfl; have hcz26_2 := ci BK144.out 2 a0_2 rfl; have hcz26_3 := ci BK144.out 3 a0_3 rfl; have hcz26_4 := ci BK144.out 4 a0_4 rfl; have hfz26_0 := fun j_ : Nat => blk_frozen BK144.out j_) | ((with_reducible refine gate_callee (f := 7) rfl ?_); refine goesL_ (some 15) rfl rfl Tryd.func7 (by kernel_rfl) rfl #[.agg #[.int .i64 a0_0, .int .i64 a0_1, .int .i64 a0_2, .int .i64 a0_3, .int .i64 a0_4]] rfl argsB ?_; (with_reducible refine (laws_toLead.calls a0_0 a0_1 a0_2 a0_3 a0_4 t152 t153 t154 t155 t156 _ A4.out).mono ?_); rintro e w27 ⟨rfl, hb⟩; refine ⟨_, rfl, ?_⟩; have n0_ := Aside0.mk (blk_below (g := gb144) (o := .cells #[.int .i64 a0_0, .int .i64 a0_1, .int .i64 a0_2, .int .i64 a0_3, .int .i64 a0_4] 23 (0, 0)) (upK BK144.out) hb); have n1_ := Aside0.mk (below_step (upB1 HB.out GE144.out) hb); clear BK144; clear HB; have BK144 := n0_; have HB := n1_; clear n0_ n1_; (try clear hb)) | ((with_reducible refine gate_callee (f := 8) rfl ?_); refine goesL_ (some 16) rfl rfl Tryd.func8 (by kernel_rfl) rfl #[.agg #[.int .i64 t152, .int .i64 t153, .int .i64 t154, .int .i64 t155, .int .i64 t156]] rfl argsB ?_; (with_reducible refine (impl_LeadText.calls t152 t153 t154 t155 t156 t157 t158 _ A5.out (TabW.up2 hTW HB.out)).mono ?_); rintro e w28 ⟨rfl, hb⟩; refine ⟨_, rfl, ?_⟩; have n0_ := Aside0.mk (blk_below (g := gb144) (o := .cells #[.int .i64 a0_0, .int .i64 a0_1, .int .i64 a0_2, .int .i64 a0_3, .int .i64 a0_4] 23 (0, 0)) (upK BK144.out) hb); have n1_ := Aside0.mk (below_step (upB1 HB.out GE144.out) hb); clear BK144; clear HB; have BK144 := n0_; have HB := n1_; clear n0_ n1_; (try clear hb)))
    go_ret
    exact ⟨by first | rfl | (simp [errW_none, errW_some] <;> rfl) | (simp [*, errW_none, errW_some] <;> rfl), (upB1 HB.out GE144.out)⟩

end Go.Proofs.YtldgjibimolcdaaDoor.QFnExactLeadText
