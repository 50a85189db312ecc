/- Plain words for loops with a bound on their rounds: 'from some bound on the function answers r', and arithmetic of indices. -/
import Derived.Test.YtmfidodcpbochaaGreatVSMore
namespace Go.Proofs.YtmfidodcpbochaaGreat.Aid
open Go.RowKit

/-- From some number of rounds on, g answers r. -/
def Evn {α : Type} (g : Nat → Option α) (r : α) : Prop := ∃ K, ∀ k, K ≤ k → g k = some r
section
variable {α β : Type} {g g' : Nat → Option α} {a r : α} {b : β}
theorem Evn.of (h : ∀ k, g k = some r) : Evn g r := ⟨0, fun k _ => h k⟩
theorem Evn.done (r : α) : Evn (fun _ => some r) r := ⟨0, fun _ _ => rfl⟩
theorem Evn.bind {f : Nat → α → Option β} (h : Evn g a) (h' : Evn (fun k => f k a) b) : Evn (fun k => (g k).bind (f k)) b := by
  obtain ⟨K, hK⟩ := h
  obtain ⟨L, hL⟩ := h'
  refine ⟨max K L, fun k hk => ?_⟩
  show (g k).bind (f k) = some b
  rw [hK k (by omega)]
  exact hL k (by omega)
theorem Evn.step (h : Evn (fun k => g (k + 1)) r) : Evn g r := by
  obtain ⟨K, hK⟩ := h
  refine ⟨K + 1, fun k hk => ?_⟩
  obtain ⟨m, rfl⟩ : ∃ m, k = m + 1 := ⟨k - 1, by omega⟩
  exact hK m (by omega)
theorem Evn.up (h : Evn g r) : Evn (fun k => g (k + 1)) r := by
  obtain ⟨K, hK⟩ := h
  exact ⟨K, fun k hk => hK (k + 1) (by omega)⟩
theorem Evn.get (h : Evn g r) : ∃ k, g k = some r := by
  obtain ⟨K, hK⟩ := h
  exact ⟨K, hK K (Nat.le_refl _)⟩
theorem Evn.cong (h : Evn g r) (he : ∀ k, g' k = g k) : Evn g' r := by
  obtain ⟨K, hK⟩ := h
  exact ⟨K, fun k hk => (he k).trans (hK k hk)⟩
theorem Evn.eq_ (h : Evn g a) (e : a = r) : Evn g r := e ▸ h
theorem Evn.ite {c : Prop} [Decidable c] (h : c → Evn g r) (h' : ¬ c → Evn g' r) : Evn (fun k => if c then g k else g' k) r := by
  by_cases hc : c
  · simp only [if_pos hc]; exact h hc
  · simp only [if_neg hc]; exact h' hc
theorem Evn.uniq (h : Evn g a) (h' : Evn g r) : a = r := by
  obtain ⟨K, hK⟩ := h
  obtain ⟨L, hL⟩ := h'
  have h1 := hK (max K L) (by omega)
  rw [hL (max K L) (by omega)] at h1
  injection h1 with h1
  exact h1.symm
end

theorem ite_and (b x : Bool) : (if b = true then some x else some false) = some (b && x) := by cases b <;> rfl
theorem ite_or (b x : Bool) : (if b = true then some true else some x) = some (b || x) := by cases b <;> rfl
theorem wrap_id {x : Int} (h0 : -9223372036854775808 ≤ x) (h1 : x ≤ 9223372036854775807) : wrap64 x = x := by unfold wrap64; omega
theorem wrap_succ {i : Nat} (h : i < 4611686018427387904) : wrap64 ((i : Int) + 1) = ((i + 1 : Nat) : Int) := by unfold wrap64; omega
theorem wrap_pred {i : Nat} (h : i < 4611686018427387904) : wrap64 (((i + 1 : Nat) : Int) - 1) = (i : Int) := by unfold wrap64; omega
theorem set_take {α : Type} (ys : List α) (i : Nat) (x : α) (h : i < ys.length) : (ys.set i x).take (i + 1) = ys.take i ++ [x] := by
  rw [List.take_succ_eq_append_getElem (by simpa using h)]
  simp only [List.getElem_set_self, List.take_set]
  congr 1
  exact List.set_eq_of_length_le (by rw [List.length_take]; omega)
theorem getD_drop {α : Type} (xs : List α) (i : Nat) (d : α) (h : i < xs.length) : xs.drop i = xs.getD i d :: xs.drop (i + 1) := by
  rw [List.drop_eq_getElem_cons h]
  simp [List.getD, List.getElem?_eq_getElem h]
end Go.Proofs.YtmfidodcpbochaaGreat.Aid
