/- The plain statement of FnTripLists: its plain function returns true at every input. No condition beyond the arguments' own bounds. -/
import Derived.Test.YtmeaacbnjpgepaaGreatDoorQFnTripListsx15
import Derived.Test.YtmeaacbnjpgepaaGreatDoorVZAid
namespace Go.Proofs.YtmeaacbnjpgepaaGreatDoor.Pure
open Go.RowKit Go.Proofs.YtmeaacbnjpgepaaGreatDoorW.PrintWords Go.Proofs.YtmeaacbnjpgepaaGreatDoorW.PrintLast Go.Proofs.YtmeaacbnjpgepaaGreatDoor.Aid Go.Proofs.YtmeaacbnjpgepaaGreatDoor.QFnTripLists
set_option linter.unusedVariables false
set_option linter.unusedSimpArgs false

theorem sp_l1In (x y z : Int) : spec_l1In.f x y z = some (decide (y ≤ x ∧ x ≤ z)) := by
  unfold spec_l1In.f
  by_cases h : x ≥ y <;> simp [h] <;> omega

/-! A trip's rules. -/
def goodT (a b c d e : Int) : Bool := (decide (0 ≤ a ∧ a ≤ 5) && (decide (1 ≤ b ∧ b ≤ 12) && (decide (0 ≤ d ∧ d ≤ 999) && decide (0 ≤ e ∧ e ≤ 999)))) && (if 1 ≤ a ∧ a ≤ 3 then decide (1 ≤ c ∧ c ≤ b) && ((a == 1) == decide (e ≤ d)) else c == 0)

/-! A step of a trip: the trip behind it, and whether it is possible. -/
def stepT (a b c d e q n : Int) : Int × Int × Int × Int × Int × Bool :=
  if q = 1 then (1, b, wrap64 (c + n), d, e, decide (a ≤ 1) && (decide (1 ≤ n ∧ n ≤ wrap64 (b - c)) && decide (e < d)))
  else if q = 2 then (if wrap64 (c - n) = 0 then 4 else a, b, wrap64 (c - n), d, e, decide (1 ≤ a ∧ a ≤ 3) && decide (1 ≤ n ∧ n ≤ c))
  else if q = 3 then (if a = 1 ∧ wrap64 (e + n) > d then 2 else a, b, c, d, wrap64 (e + n), decide (1 ≤ n ∧ n ≤ wrap64 (999 - e)))
  else if q = 4 then (3, b, c, d, e, a == 2) else if q = 5 then (5, b, c, d, e, a == 0)
  else (a, b, c, wrap64 (d + n), e, decide (a = 1) && decide (1 ≤ n ∧ n ≤ wrap64 (999 - d)))
def goodS (q n : Int) : Bool := if q = 4 ∨ q = 5 then n == 0 else decide (1 ≤ q ∧ q ≤ 6) && decide (n ≥ 0)
def only (r : Int × Int × Int × Int × Int × Bool) : Int × Int × Int × Int × Int × Bool := if r.2.2.2.2.2 = true then r else (0, 0, 0, 0, 0, false)
def stepTs (a b c d e q n : Int) : Int × Int × Int × Int × Int × Bool := if goodT a b c d e = true ∧ goodS q n = true then only (stepT a b c d e q n) else (0, 0, 0, 0, 0, false)

theorem sp_l21Step (q n : Int) : spec_l21Step.f q n = some (goodS q n) := by
  unfold spec_l21Step.f goodS
  by_cases h4 : q = 4
  · simp [h4]
  · by_cases h5 : q = 5
    · simp [h5]
    · simp only [if_neg h4, if_neg h5, sp_l1In, Option.bind_some, ite_and]
      rw [if_neg (by omega)]

theorem sp_l21In (x : Int) : spec_l21In.f x = some (decide (1 ≤ x ∧ x ≤ 3)) := by
  simp only [spec_l21In.f, sp_l1In, Option.bind_some]
theorem sp_l21Time (x : Int) : spec_l21Time.f x = some (decide (0 ≤ x ∧ x ≤ 999)) := by
  simp only [spec_l21Time.f, sp_l1In, Option.bind_some]
theorem sp_l21Good (a b c d e : Int) : Evn (fun k => spec_l21Good.f k a b c d e) (goodT a b c d e) := by
  refine Evn.step ?_
  refine Evn.of fun k => ?_
  unfold goodT
  simp only [spec_l21Good.f, spec_l21Good.j0, sp_l21In, sp_l21Time, sp_l1In, Option.bind_some, ite_and]
  by_cases h1 : 0 ≤ a ∧ a ≤ 5
  · by_cases h2 : 1 ≤ b ∧ b ≤ 12
    · by_cases h3 : 0 ≤ d ∧ d ≤ 999
      · by_cases h4 : 0 ≤ e ∧ e ≤ 999
        · by_cases h5 : 1 ≤ a ∧ a ≤ 3
          · simp [h1, h2, h3, h4, h5]
          · simp [h1, h2, h3, h4, h5]
        · simp [h1, h2, h3, h4]
      · simp [h1, h2, h3]
    · simp [h1, h2]
  · simp [h1]

theorem sp_l21Make (a b c d e q n : Int) : Evn (fun k => spec_l21Make.f k a b c d e q n) (stepT a b c d e q n) := by
  refine Evn.step ?_
  refine Evn.of fun k => ?_
  unfold stepT
  simp only [spec_l21Make.f, spec_l21Make.j0, sp_l1In, sp_l21In, Option.bind_some]
  by_cases h1 : q = 1
  · simp only [if_pos h1]
    by_cases g1 : a ≤ 1
    · simp only [if_pos g1, decide_eq_true g1, Bool.true_and]
      by_cases g2 : 1 ≤ n ∧ n ≤ wrap64 (b - c)
      · simp only [decide_eq_true g2, if_true, Bool.true_and]
      · simp only [decide_eq_false g2, Bool.false_eq_true, if_false, Bool.false_and]
    · simp only [if_neg g1, decide_eq_false g1, Bool.false_and]
  · simp only [if_neg h1]
    by_cases h2 : q = 2
    · simp only [if_pos h2]
      by_cases g1 : wrap64 (c - n) = 0
      · simp only [if_pos g1]
        by_cases g2 : 1 ≤ a ∧ a ≤ 3
        · simp only [decide_eq_true g2, if_true, Bool.true_and]
        · simp only [decide_eq_false g2, Bool.false_eq_true, if_false, Bool.false_and]
      · simp only [if_neg g1]
        by_cases g2 : 1 ≤ a ∧ a ≤ 3
        · simp only [decide_eq_true g2, if_true, Bool.true_and]
        · simp only [decide_eq_false g2, Bool.false_eq_true, if_false, Bool.false_and]
    · simp only [if_neg h2]
      by_cases h3 : q = 3
      · simp only [if_pos h3]
        by_cases g1 : a = 1
        · by_cases g2 : wrap64 (e + n) > d
          · rw [if_pos (show a = 1 ∧ wrap64 (e + n) > d from ⟨g1, g2⟩)]
            simp only [if_pos g1, decide_eq_true g2, if_true]
          · rw [if_neg (show ¬ (a = 1 ∧ wrap64 (e + n) > d) from fun h => g2 h.2)]
            simp only [if_pos g1, decide_eq_false g2, Bool.false_eq_true, if_false]
        · rw [if_neg (show ¬ (a = 1 ∧ wrap64 (e + n) > d) from fun h => g1 h.1)]
          simp only [if_neg g1, Bool.false_eq_true, if_false]
      · simp only [if_neg h3]
        by_cases h4 : q = 4
        · simp only [if_pos h4]
        · simp only [if_neg h4]
          by_cases h5 : q = 5
          · simp only [if_pos h5]
          · simp only [if_neg h5]
            by_cases g1 : a = 1
            · simp only [if_pos g1, decide_eq_true g1, Bool.true_and]
            · simp only [if_neg g1, decide_eq_false g1, Bool.false_and]

theorem sp_StepTrip (a b c d e q n : Int) : Evn (fun k => spec_StepTrip.f k a b c d e q n) (stepTs a b c d e q n) := by
  unfold spec_StepTrip.f stepTs
  refine Evn.bind (sp_l21Good a b c d e) ?_
  simp only [sp_l21Step, Option.bind_some]
  refine Evn.ite (fun c1 => Evn.step ?_) (fun c1 => Evn.step ?_)
  · simp only [spec_StepTrip.j0]
    refine Evn.ite (fun c2 => ?_) (fun c2 => ?_)
    · rw [if_neg (by intro h; rw [h.2] at c2; cases c2)]
      exact Evn.done _
    · rw [if_pos ⟨c1, by simpa using c2⟩]
      refine Evn.bind (sp_l21Make a b c d e q n) ?_
      unfold only
      exact Evn.ite (fun c3 => by rw [if_pos c3]; refine (Evn.done _).eq_ (by rw [← c3])) (fun c3 => by rw [if_neg c3]; exact Evn.done _)
  · simp only [spec_StepTrip.j0, if_true]
    rw [if_neg (fun h => c1 h.1)]
    exact Evn.done _

/-- A whole number's decimal text. -/
def numT (n : Int) : ByteArray := ⟨(Lib.itoa n).toArray⟩
theorem dg_ext (n : Nat) (h : n < 10) : (⟨#[48, 49, 50, 51, 52, 53, 54, 55, 56, 57]⟩ : ByteArray).extract n (n + 1) = ⟨#[UInt8.ofNat (48 + n)]⟩ := by
  have h2 : n = 0 ∨ n = 1 ∨ n = 2 ∨ n = 3 ∨ n = 4 ∨ n = 5 ∨ n = 6 ∨ n = 7 ∨ n = 8 ∨ n = 9 := by omega
  rcases h2 with rfl | rfl | rfl | rfl | rfl | rfl | rfl | rfl | rfl | rfl <;> rfl
theorem numT_small (n : Nat) (h : n < 10) : numT n = ⟨#[UInt8.ofNat (48 + n)]⟩ := by
  unfold numT
  rw [Lib.itoa_nonneg, Lib.decDigits, dif_pos h]
theorem numT_big (n : Nat) (h : ¬ n < 10) : numT n = numT ((n / 10 : Nat) : Int) ++ ⟨#[UInt8.ofNat (48 + n % 10)]⟩ := by
  unfold numT
  rw [Lib.itoa_nonneg, Lib.itoa_nonneg, Lib.decDigits, dif_neg h]
  apply ByteArray.ext
  simp
theorem numT_size : ∀ (k n : Nat), n < 10 ^ (k + 1) → (numT n).size ≤ k + 1
  | 0, n, h => by
    rw [numT_small n (by simpa using h)]
    exact Nat.le_refl 1
  | k + 1, n, h => by
    by_cases h1 : n < 10
    · rw [numT_small n h1]
      show 1 ≤ _
      omega
    · rw [numT_big n h1, ByteArray.size_append]
      have h2 := numT_size k (n / 10) (by rw [Nat.pow_succ] at h; omega)
      show _ + 1 ≤ _
      omega
theorem Evn.pos {α : Type} {r : α} {c : Prop} [Decidable c] {g g' : Nat → Option α} (h : c) (h' : Evn g r) : Evn (fun k => if c then g k else g' k) r := Evn.ite (fun _ => h') (fun hn => absurd h hn)
theorem sz1 (a : UInt8) : (⟨#[a]⟩ : ByteArray).size = 1 := rfl
theorem sz4 (a b c d : UInt8) : (⟨#[a, b, c, d]⟩ : ByteArray).size = 4 := rfl
theorem sz5 (a b c d e : UInt8) : (⟨#[a, b, c, d, e]⟩ : ByteArray).size = 5 := rfl
theorem sz6 (a b c d e f : UInt8) : (⟨#[a, b, c, d, e, f]⟩ : ByteArray).size = 6 := rfl
theorem sz7 (a b c d e f g : UInt8) : (⟨#[a, b, c, d, e, f, g]⟩ : ByteArray).size = 7 := rfl

theorem sp_l1Num : ∀ (n : Nat), n < 1000000 → Evn (fun k => spec_l1Num.f k (n : Int)) (numT n) := by
  intro n
  induction n using Nat.strongRecOn with
  | _ n ih =>
    intro h
    refine Evn.step ?_
    have h0 : ¬ (n : Int) < 0 := by omega
    by_cases h1 : n < 10
    · have h2 : (n : Int) < 10 := by omega
      have h3 : 0 ≤ (n : Int) := by omega
      have h4 : (n : Int) ≤ ((n + 1 : Nat) : Int) := by omega
      have h5 : ((n + 1 : Nat) : Int) ≤ 10 := by omega
      simp only [spec_l1Num.f, if_neg h0, if_pos h2, if_pos h3, wrap_succ (show n < 4611686018427387904 by omega), if_pos h4, if_pos h5, Int.toNat_natCast]
      rw [dg_ext n h1, ← numT_small n h1]
      exact Evn.done _
    · have h2 : ¬ (n : Int) < 10 := by omega
      have hd : Int.tdiv (n : Int) 10 = ((n / 10 : Nat) : Int) := rfl
      have hm : Int.tmod (n : Int) 10 = ((n % 10 : Nat) : Int) := rfl
      have hw : wrap64 ((n / 10 : Nat) : Int) = ((n / 10 : Nat) : Int) := wrap_id (by omega) (by omega)
      have hb := ih (n / 10) (by omega) (by omega)
      have hz := numT_size 5 (n / 10) (by have : (10 : Nat) ^ (5 + 1) = 1000000 := rfl; omega)
      have hq : n % 10 < 10 := by omega
      simp only [spec_l1Num.f, if_neg h0, if_neg h2, hd, hm, hw]
      refine Evn.bind hb ?_
      have g1 : 0 ≤ ((n % 10 : Nat) : Int) := by omega
      have g2 : ((n % 10 : Nat) : Int) ≤ ((n % 10 + 1 : Nat) : Int) := by omega
      have g3 : ((n % 10 + 1 : Nat) : Int) ≤ 10 := by omega
      have hx := dg_ext (n % 10) hq
      simp only [if_pos g1, wrap_succ (show n % 10 < 4611686018427387904 by omega), if_pos g2, if_pos g3, Int.toNat_natCast, hx]
      refine Evn.pos (by rw [sz1]; omega) ?_
      rw [← numT_big n h1]
      exact Evn.done _

/-- A trip's text. -/
def tripT (a b c d e : Int) : ByteArray := ((((((((stW a ++ (⟨#[32]⟩ : ByteArray)) ++ numT c) ++ (⟨#[47]⟩ : ByteArray)) ++ numT b) ++ (⟨#[32, 100, 117, 101, 32]⟩ : ByteArray)) ++ numT d) ++ (⟨#[32, 97, 116, 32]⟩ : ByteArray)) ++ numT e)
theorem stW_size6 (e : Int) (h : 0 ≤ e) (h' : e < 6) : (stW e).size ≤ 8 := by
  have h2 : e = 0 ∨ e = 1 ∨ e = 2 ∨ e = 3 ∨ e = 4 ∨ e = 5 := by omega
  rcases h2 with rfl | rfl | rfl | rfl | rfl | rfl <;> decide

theorem sp_l21Text (a : Int) (b c d e : Nat) (hb : b < 1000) (hc : c < 1000) (hd : d < 1000) (he : e < 1000) (h0 : 0 ≤ a) (h4 : a < 6) : Evn (fun k => spec_l21Text.f k a b c d e) (tripT a b c d e) := by
  have zb := numT_size 2 b hb
  have zc := numT_size 2 c hc
  have zd := numT_size 2 d hd
  have ze := numT_size 2 e he
  have za := stW_size6 a h0 h4
  have hr : ∀ y, spec_l21Words.f = some y → rdOf ByteArray.empty y a = stW a := by
    intro y hy
    obtain rfl := Option.some.inj hy
    rfl
  unfold spec_l21Text.f tripT
  refine Evn.bind (Evn.done _) ?_
  refine Evn.pos h0 ?_
  refine Evn.pos h4 ?_
  rw [hr _ rfl]
  refine Evn.pos (by first | omega | (simp only [ByteArray.size_append, sz1, sz4, sz5]; omega)) ?_
  refine Evn.bind (sp_l1Num c (by omega)) ?_
  refine Evn.pos (by first | omega | (simp only [ByteArray.size_append, sz1, sz4, sz5]; omega)) ?_
  refine Evn.pos (by first | omega | (simp only [ByteArray.size_append, sz1, sz4, sz5]; omega)) ?_
  refine Evn.bind (sp_l1Num b (by omega)) ?_
  refine Evn.pos (by first | omega | (simp only [ByteArray.size_append, sz1, sz4, sz5]; omega)) ?_
  refine Evn.pos (by first | omega | (simp only [ByteArray.size_append, sz1, sz4, sz5]; omega)) ?_
  refine Evn.bind (sp_l1Num d (by omega)) ?_
  refine Evn.pos (by first | omega | (simp only [ByteArray.size_append, sz1, sz4, sz5]; omega)) ?_
  refine Evn.pos (by first | omega | (simp only [ByteArray.size_append, sz1, sz4, sz5]; omega)) ?_
  refine Evn.bind (sp_l1Num e (by omega)) ?_
  refine Evn.pos (by first | omega | (simp only [ByteArray.size_append, sz1, sz4, sz5]; omega)) ?_
  exact Evn.done _

def txtT (a b c d e : Int) : ByteArray × Bool := if goodT a b c d e = true then (tripT a b c d e, true) else ((⟨#[]⟩ : ByteArray), false)
theorem good_rng {a b c d e : Int} (h : goodT a b c d e = true) : 0 ≤ a ∧ a ≤ 5 ∧ 1 ≤ b ∧ b ≤ 12 ∧ 0 ≤ c ∧ c ≤ 12 ∧ 0 ≤ d ∧ d ≤ 999 ∧ 0 ≤ e ∧ e ≤ 999 := by
  unfold goodT at h
  split at h <;> simp only [Bool.and_eq_true, decide_eq_true_eq, beq_iff_eq] at h <;> omega
theorem sp_TripText (a b c d e : Int) : Evn (fun k => spec_TripText.f k a b c d e) (txtT a b c d e) := by
  unfold spec_TripText.f txtT
  refine Evn.bind (sp_l21Good a b c d e) ?_
  by_cases h : goodT a b c d e = true
  · have hb := good_rng h
    obtain ⟨b, rfl⟩ : ∃ n : Nat, b = n := ⟨b.toNat, by omega⟩
    obtain ⟨c, rfl⟩ : ∃ n : Nat, c = n := ⟨c.toNat, by omega⟩
    obtain ⟨d, rfl⟩ : ∃ n : Nat, d = n := ⟨d.toNat, by omega⟩
    obtain ⟨e, rfl⟩ : ∃ n : Nat, e = n := ⟨e.toNat, by omega⟩
    simp only [if_pos h]
    exact Evn.bind (sp_l21Text a b c d e (by omega) (by omega) (by omega) (by omega) (by omega) (by omega)) (Evn.done _)
  · simp only [if_neg h]
    exact Evn.done _

def ofL (l : List UInt8) : ByteArray := ⟨l.toArray⟩
theorem ofL_data (b : ByteArray) : ofL b.data.toList = b := by cases b; simp [ofL]
theorem data_ofL (l : List UInt8) : (ofL l).data.toList = l := by simp [ofL]
theorem size_data (b : ByteArray) : b.data.toList.length = b.size := by cases b; simp [ByteArray.size]
theorem toList_data (b : ByteArray) : b.toList = b.data.toList := ByteArray.toList_eq b |>.trans (by simp)
theorem byteL_eq {a b : ByteArray} (h : a.toList = b.toList) : a = b := by
  rw [toList_data, toList_data] at h
  rw [← ofL_data a, ← ofL_data b, h]
theorem dataExt {a b : ByteArray} (h : a.data.toList = b.data.toList) : a = b := by rw [← ofL_data a, ← ofL_data b, h]
/-- The words of a row of bytes, at each 'c'. -/
def wordsL (c : UInt8) : List UInt8 → List (List UInt8)
  | [] => [[]]
  | b :: l => if b = c then [] :: wordsL c l else (b :: (wordsL c l).headD []) :: (wordsL c l).tail
theorem wordsL_cons (c : UInt8) (l : List UInt8) : wordsL c l = (wordsL c l).headD [] :: (wordsL c l).tail := by
  cases l with
  | nil => rfl
  | cons b l => unfold wordsL; split <;> rfl
theorem wordsL_hit {b c : UInt8} (h : b = c) (l : List UInt8) : wordsL c (b :: l) = [] :: wordsL c l := by
  conv => lhs; unfold wordsL
  rw [if_pos h]
theorem wordsL_miss {b c : UInt8} (h : ¬ b = c) (l : List UInt8) : wordsL c (b :: l) = (b :: (wordsL c l).headD []) :: (wordsL c l).tail := by
  conv => lhs; unfold wordsL
  rw [if_neg h]
theorem wordsL_one (c : UInt8) : ∀ w : List UInt8, c ∉ w → wordsL c w = [w]
  | [], _ => rfl
  | b :: w, h => by
    have h1 : ¬ b = c := fun e => h (by simp [e])
    have h2 := wordsL_one c w (fun hm => h (List.mem_cons_of_mem _ hm))
    unfold wordsL
    rw [if_neg h1, h2]
    rfl
theorem wordsL_app (c : UInt8) (r : List UInt8) : ∀ w : List UInt8, c ∉ w → wordsL c (w ++ c :: r) = w :: wordsL c r
  | [], _ => by
    rw [List.nil_append]
    conv => lhs; unfold wordsL
    rw [if_pos rfl]
  | b :: w, h => by
    have h1 : ¬ b = c := fun e => h (by simp [e])
    have h2 := wordsL_app c r w (fun hm => h (List.mem_cons_of_mem _ hm))
    rw [List.cons_append]
    conv => lhs; unfold wordsL
    rw [if_neg h1, h2]
    rfl
theorem wordsL_len (c : UInt8) : ∀ (l w : List UInt8), w ∈ wordsL c l → w.length ≤ l.length
  | [], w, h => by
    have : w = [] := by simpa [wordsL] using h
    subst this
    exact Nat.le_refl _
  | b :: l, w, h => by
    have ih := wordsL_len c l
    unfold wordsL at h
    split at h
    · rcases List.mem_cons.1 h with rfl | h
      · exact Nat.zero_le _
      · have := ih w h
        rw [List.length_cons]
        omega
    · rcases List.mem_cons.1 h with rfl | h
      · have := ih ((wordsL c l).headD []) (by rw [wordsL_cons c l]; exact List.mem_cons_self)
        simp only [List.length_cons]
        omega
      · have := ih w (List.mem_of_mem_tail h)
        rw [List.length_cons]
        omega
theorem indexByte_app (c : UInt8) (r : List UInt8) : ∀ w : List UInt8, c ∉ w → Lib.indexByte (w ++ c :: r) c = (w.length : Int)
  | [], _ => by simp [Lib.indexByte]
  | b :: w, h => by
    have h1 : (b == c) = false := by
      have : ¬ b = c := fun e => h (by simp [e])
      simpa using this
    have h2 := indexByte_app c r w (fun hm => h (List.mem_cons_of_mem _ hm))
    have h3 : (((w.length : Nat) : Int) == -1) = false := beq_eq_false_iff_ne.2 (by omega)
    rw [List.cons_append, Lib.indexByte, h1, h2, h3]
    simp
theorem indexByte_no (c : UInt8) : ∀ w : List UInt8, c ∉ w → Lib.indexByte w c = -1
  | [], _ => rfl
  | b :: w, h => by
    have h1 : (b == c) = false := by
      have : ¬ b = c := fun e => h (by simp [e])
      simpa using this
    have h2 := indexByte_no c w (fun hm => h (List.mem_cons_of_mem _ hm))
    rw [Lib.indexByte, h1, h2]
    rfl
theorem split_words (c : UInt8) : ∀ (n : Nat) (l : List UInt8), l.length ≤ n → Lib.splitK [c] 0 (Lib.count l [c]) l = wordsL c l := by
  intro n
  induction n with
  | zero =>
    intro l h
    obtain rfl : l = [] := List.eq_nil_of_length_eq_zero (by omega)
    rw [Lib.count_one]
    rfl
  | succ n ih =>
    intro l h
    by_cases hc : c ∈ l
    · obtain ⟨w, r, rfl, hw⟩ := List.eq_append_cons_of_mem hc
      have hi : Lib.index (w ++ c :: r) [c] = ((w.length : Nat) : Int) := (Lib.index_one _ _).trans (indexByte_app c r w hw)
      have hcnt : Lib.count (w ++ c :: r) [c] = Lib.count r [c] + 1 := by
        rw [Lib.count_one, Lib.count_one, List.count_append, List.count_cons_self, List.count_eq_zero_of_not_mem hw]
        omega
      have hm : ¬ (Lib.index (w ++ c :: r) [c] == -1) = true := by rw [hi]; exact fun e => by have := beq_iff_eq.1 e; omega
      have hr : r.length ≤ n := by simp only [List.length_append, List.length_cons] at h; omega
      rw [hcnt, Lib.splitK, if_neg hm, hi, wordsL_app c r w hw, Int.toNat_natCast, ← ih r hr]
      simp
    · rw [Lib.count_one, List.count_eq_zero_of_not_mem hc, wordsL_one c l hc]
      rfl
/-- A text's words. -/
def wordsB (c : UInt8) (s : ByteArray) : List ByteArray := (wordsL c s.data.toList).map ofL
theorem splitB_words (c : UInt8) (s : ByteArray) : Lib.splitB ⟨#[c]⟩ 0 (Lib.countB s ⟨#[c]⟩) s = wordsB c s := by
  have h := Lib.splitB_data ⟨#[c]⟩ 0 (Lib.countB s ⟨#[c]⟩) s
  have h2 : Lib.splitK [c] 0 (Lib.countB s ⟨#[c]⟩) s.data.toList = wordsL c s.data.toList := split_words c s.data.toList.length s.data.toList (Nat.le_refl _)
  have h3 : (Lib.splitB ⟨#[c]⟩ 0 (Lib.countB s ⟨#[c]⟩) s).map (·.data.toList) = wordsL c s.data.toList := h.trans h2
  unfold wordsB
  rw [← h3, List.map_map]
  conv => lhs; rw [← List.map_id (Lib.splitB ⟨#[c]⟩ 0 (Lib.countB s ⟨#[c]⟩) s)]
  exact List.map_congr_left fun b _ => (ofL_data b).symm
theorem wordsB_size (c : UInt8) (s w : ByteArray) (h : w ∈ wordsB c s) : w.size ≤ s.size := by
  obtain ⟨l, hl, rfl⟩ := List.mem_map.1 h
  have := wordsL_len c _ l hl
  rw [size_data] at this
  exact this
theorem wordsB_app (c : UInt8) (w r : ByteArray) (h : c ∉ w.data.toList) : wordsB c (w ++ ((⟨#[c]⟩ : ByteArray) ++ r)) = w :: wordsB c r := by
  have e : (w ++ ((⟨#[c]⟩ : ByteArray) ++ r)).data.toList = w.data.toList ++ c :: r.data.toList := by simp
  unfold wordsB
  rw [e, wordsL_app c _ _ h, List.map_cons, ofL_data]
theorem wordsB_one (c : UInt8) (w : ByteArray) (h : c ∉ w.data.toList) : wordsB c w = [w] := by
  unfold wordsB
  rw [wordsL_one c _ h, List.map_cons, ofL_data]
  rfl
/-- The number that a row of digits spells behind 'v'. -/
def decV : Nat → List UInt8 → Nat
  | v, [] => v
  | v, b :: l => decV (10 * v + (b.toNat - 48)) l
def digL (l : List UInt8) : Prop := ∀ b ∈ l, 48 ≤ b.toNat ∧ b.toNat ≤ 57
theorem decV_append : ∀ (a b : List UInt8) (v : Nat), decV v (a ++ b) = decV (decV v a) b
  | [], _, _ => rfl
  | _ :: a, b, v => decV_append a b _
theorem decV_ge : ∀ (l : List UInt8) (v : Nat), v ≤ decV v l
  | [], _ => Nat.le_refl _
  | b :: l, v => by
    have := decV_ge l (10 * v + (b.toNat - 48))
    show v ≤ decV (10 * v + (b.toNat - 48)) l
    omega
theorem digit_nat (n : Nat) (h : n < 10) : (UInt8.ofNat (48 + n)).toNat = 48 + n := by
  rw [UInt8.toNat_ofNat']
  omega
theorem numT_digits : ∀ n : Nat, digL (numT n).data.toList ∧ decV 0 (numT n).data.toList = n ∧ 1 ≤ (numT n).size := by
  intro n
  induction n using Nat.strongRecOn with
  | _ n ih =>
    by_cases h1 : n < 10
    · rw [numT_small n h1]
      refine ⟨fun b hb => ?_, ?_, Nat.le_refl _⟩
      · obtain rfl : b = UInt8.ofNat (48 + n) := by simpa using hb
        rw [digit_nat n h1]
        omega
      · show 10 * 0 + ((UInt8.ofNat (48 + n)).toNat - 48) = n
        rw [digit_nat n h1]
        omega
    · obtain ⟨i1, i2, i3⟩ := ih (n / 10) (by omega)
      have hq : n % 10 < 10 := by omega
      have e : (numT ((n / 10 : Nat) : Int) ++ (⟨#[UInt8.ofNat (48 + n % 10)]⟩ : ByteArray)).data.toList = (numT ((n / 10 : Nat) : Int)).data.toList ++ [UInt8.ofNat (48 + n % 10)] := by simp
      rw [numT_big n h1]
      refine ⟨fun b hb => ?_, ?_, ?_⟩
      · rw [e] at hb
        rcases List.mem_append.1 hb with hb | hb
        · exact i1 b hb
        · obtain rfl : b = UInt8.ofNat (48 + n % 10) := by simpa using hb
          rw [digit_nat _ hq]
          omega
      · rw [e, decV_append, i2]
        show 10 * (n / 10) + ((UInt8.ofNat (48 + n % 10)).toNat - 48) = n
        rw [digit_nat _ hq]
        omega
      · rw [ByteArray.size_append]
        omega
theorem numT_no (c : UInt8) (h : c.toNat < 48 ∨ 57 < c.toNat) (n : Nat) : c ∉ (numT n).data.toList := fun hm => by
  have := (numT_digits n).1 c hm
  omega
theorem cut_last (w : ByteArray) (x : UInt8) : (w ++ (⟨#[x]⟩ : ByteArray)).extract 0 w.size = w := by
  apply dataExt
  rw [Lib.extract_data]
  simp only [ByteArray.data_append, Array.toList_append, List.drop_zero, Nat.sub_zero]
  rw [← size_data, List.take_left]
theorem get_last (w : ByteArray) (x : UInt8) : (w ++ (⟨#[x]⟩ : ByteArray)).extract w.size (w.size + 1) = (⟨#[x]⟩ : ByteArray) := by
  apply dataExt
  rw [Lib.extract_data]
  simp only [ByteArray.data_append, Array.toList_append]
  rw [← size_data, List.drop_left, Nat.add_sub_cancel_left]
  rfl
theorem rdOf_mem (ws : List ByteArray) (i : Nat) (h : i < ws.length) : rdOf ByteArray.empty ws (i : Int) ∈ ws := by
  show ws.getD (i : Int).toNat ByteArray.empty ∈ ws
  rw [Int.toNat_natCast, List.getD, List.getElem?_eq_getElem h, Option.getD_some]
  exact List.getElem_mem _
theorem wordsB_pos (c : UInt8) (s : ByteArray) : 0 < (wordsB c s).length := by
  unfold wordsB
  rw [wordsL_cons]
  exact Nat.succ_pos _

theorem bt_at (s : ByteArray) (j : Nat) (h : j < s.size) : ∃ b : UInt8, bt s (j : Int) = (b.toNat : Int) ∧ s.data.toList.drop j = b :: s.data.toList.drop (j + 1) := by
  refine ⟨s[j], ?_, ?_⟩
  · unfold bt
    simp [h]
  · have h' : j < s.data.toList.length := by rw [size_data]; exact h
    rw [List.drop_eq_getElem_cons h']
    rfl
theorem byte_eq (b c : UInt8) : ((b.toNat : Int) = (c.toNat : Int)) ↔ b = c := by
  constructor
  · intro h
    exact UInt8.toNat_inj.1 (by omega)
  · rintro rfl
    rfl
theorem sp_l1Split_l0 (s : ByteArray) (c : UInt8) (hs : s.size < 1099511627776) : ∀ (n i j : Nat) (acc : List ByteArray), j + n = s.size → i ≤ j → acc.length ≤ j →
    Evn (fun k => spec_l1Split.l0 k s (c.toNat : Int) acc (i : Int) (j : Int)) (acc ++ ofL ((s.data.toList.drop i).take (j - i) ++ (wordsL c (s.data.toList.drop j)).headD []) :: (wordsL c (s.data.toList.drop j)).tail.map ofL) := by
  intro n
  induction n with
  | zero =>
    intro i j acc hj hi ha
    refine Evn.step ?_
    have h1 : ¬ (j : Int) < (s.size : Int) := by omega
    have h2 : 0 ≤ (i : Int) := by omega
    have h3 : (i : Int) ≤ (s.size : Int) := by omega
    have h4 : acc.length < 8796093022208 := by omega
    simp only [spec_l1Split.l0, if_neg h1, if_pos h2, if_pos h3, if_pos h4, Int.toNat_natCast]
    refine (Evn.done _).eq_ ?_
    have hd : s.data.toList.drop j = [] := List.drop_eq_nil_of_le (by rw [size_data]; omega)
    have ht : (s.data.toList.drop i).take (j - i) = s.data.toList.drop i := List.take_of_length_le (by rw [List.length_drop, size_data]; omega)
    have he : s.extract i s.size = ofL (s.data.toList.drop i) := by rw [← Lib.extract_to_end, ofL_data]
    rw [hd, ht, he]
    simp [wordsL]
  | succ n ih =>
    intro i j acc hj hi ha
    refine Evn.step ?_
    obtain ⟨b, hb, hd⟩ := bt_at s j (by omega)
    have h1 : (j : Int) < (s.size : Int) := by omega
    have h2 : 0 ≤ (j : Int) := by omega
    have h3 : 0 ≤ (i : Int) := by omega
    have h4 : (i : Int) ≤ (j : Int) := by omega
    have h5 : (j : Int) ≤ (s.size : Int) := by omega
    have h6 : acc.length < 8796093022208 := by omega
    simp only [spec_l1Split.l0, if_pos h1, if_pos h2, if_pos h3, if_pos h4, if_pos h5, if_pos h6, Int.toNat_natCast, hb, byte_eq, wrap_succ (show j < 4611686018427387904 by omega)]
    rw [hd]
    refine Evn.ite (fun hc => ?_) (fun hc => ?_)
    · refine (ih (j + 1) (j + 1) _ (by omega) (Nat.le_refl _) (by rw [List.length_append]; simp; omega)).eq_ ?_
      have he : s.extract i j = ofL ((s.data.toList.drop i).take (j - i)) := by rw [← Lib.extract_data, ofL_data]
      rw [wordsL_hit hc, he]
      simp only [Nat.sub_self, List.take_zero, List.nil_append, List.headD_cons, List.append_nil, List.tail_cons, List.append_assoc, List.cons_append]
      rw [← List.map_cons, ← wordsL_cons]
    · refine (ih i (j + 1) acc (by omega) (by omega) (by omega)).eq_ ?_
      have he : (s.data.toList.drop i).take (j + 1 - i) = (s.data.toList.drop i).take (j - i) ++ [b] := by
        have hg : (s.data.toList.drop i)[j - i]? = some b := by
          rw [List.getElem?_drop, show i + (j - i) = j by omega]
          have : (s.data.toList.drop j)[0]? = some b := by rw [hd]; rfl
          simpa using this
        rw [show j + 1 - i = (j - i) + 1 by omega, List.take_add_one, hg]
        rfl
      rw [wordsL_miss hc, he]
      simp
theorem sp_l1Split (s : ByteArray) (c : UInt8) (hs : s.size < 1099511627776) (x : Int) (hx : x = (c.toNat : Int)) : Evn (fun k => spec_l1Split.f k s x) (wordsB c s) := by
  subst hx
  refine (sp_l1Split_l0 s c hs s.size 0 0 [] (by omega) (Nat.le_refl _) (Nat.le_refl _)).eq_ ?_
  simp only [Nat.sub_self, List.take_zero, List.nil_append, List.drop_zero]
  rw [← List.map_cons, ← wordsL_cons]
  rfl

theorem sp_l1Num_tot (x : Int) (h0 : -1000000 < x) (h1 : x < 1000000) : ∃ r, Evn (fun k => spec_l1Num.f k x) r := by
  by_cases h : x < 0
  · obtain ⟨n, hn⟩ : ∃ n : Nat, wrap64 (-x) = n := ⟨(-x).toNat, by unfold wrap64; omega⟩
    have hn2 : n < 1000000 := by unfold wrap64 at hn; omega
    refine ⟨(⟨#[45]⟩ : ByteArray) ++ numT n, Evn.step ?_⟩
    simp only [spec_l1Num.f, if_pos h, hn]
    refine Evn.bind (sp_l1Num n hn2) ?_
    have hz := numT_size 5 n (by have : (10 : Nat) ^ (5 + 1) = 1000000 := rfl; omega)
    refine Evn.pos (by omega) (Evn.done _)
  · obtain ⟨n, rfl⟩ : ∃ n : Nat, x = n := ⟨x.toNat, by omega⟩
    exact ⟨_, sp_l1Num n (by omega)⟩
theorem rd_end (w : ByteArray) (x : Int) (h0 : -1000000 < x) (h1 : x < 1000000) : ∃ r, Evn (fun k => (spec_l1Num.f k x).bind fun t130 => (if t130.toList = w.toList then (some (x, true)) else (some ((0 : Int), false)))) r := by
  obtain ⟨t, ht⟩ := sp_l1Num_tot x h0 h1
  by_cases h : t.toList = w.toList
  · exact ⟨_, Evn.bind ht (by simp only [if_pos h]; exact Evn.done _)⟩
  · exact ⟨_, Evn.bind ht (by simp only [if_neg h]; exact Evn.done _)⟩
theorem pow10_le {i : Nat} (h : i ≤ 6) : 10 ^ i ≤ 1000000 := Nat.pow_le_pow_right (by omega) h
theorem dig_int (v : Nat) (b : UInt8) (hv : v < 1000000) (h0 : 48 ≤ b.toNat) (h1 : b.toNat ≤ 57) : wrap64 (wrap64 (10 * (v : Int)) + (((b.toNat : Int) - 48) % 256)) = ((10 * v + (b.toNat - 48) : Nat) : Int) := by
  rw [wrap_id (x := 10 * (v : Int)) (by omega) (by omega), wrap_id (by omega) (by omega)]
  omega
theorem rd_l0_tot (w x : ByteArray) (hx : x.size ≤ 6) : ∀ (n i v : Nat), i + n = x.size → v < 10 ^ i → ∃ r, Evn (fun k => spec_l1Read.l0 k w x (v : Int) (i : Int)) r := by
  intro n
  induction n with
  | zero =>
    intro i v hi hv
    have h1 : ¬ (i : Int) < (x.size : Int) := by omega
    have hv2 := pow10_le (show i ≤ 6 by omega)
    by_cases h2 : (x.size : Int) < (w.size : Int)
    · have hw : wrap64 (-(v : Int)) = -(v : Int) := wrap_id (by omega) (by omega)
      obtain ⟨r, hr⟩ := rd_end w (-(v : Int)) (by omega) (by omega)
      refine ⟨r, Evn.step ?_⟩
      simp only [spec_l1Read.l0, if_neg h1, if_pos h2, hw]
      exact hr
    · obtain ⟨r, hr⟩ := rd_end w (v : Int) (by omega) (by omega)
      refine ⟨r, Evn.step ?_⟩
      simp only [spec_l1Read.l0, if_neg h1, if_neg h2]
      exact hr
  | succ n ih =>
    intro i v hi hv
    obtain ⟨b, hb, hd⟩ := bt_at x i (by omega)
    have h1 : (i : Int) < (x.size : Int) := by omega
    have h2 : 0 ≤ (i : Int) := by omega
    have hv2 := pow10_le (show i ≤ 6 by omega)
    by_cases h3 : (b.toNat : Int) < 48
    · refine ⟨(0, false), Evn.step ?_⟩
      simp only [spec_l1Read.l0, if_pos h1, if_pos h2, hb, if_pos h3]
      exact Evn.done _
    · by_cases h4 : (b.toNat : Int) > 57
      · refine ⟨(0, false), Evn.step ?_⟩
        simp only [spec_l1Read.l0, if_pos h1, if_pos h2, hb, if_neg h3, if_pos h4]
        exact Evn.done _
      · obtain ⟨r, hr⟩ := ih (i + 1) (10 * v + (b.toNat - 48)) (by omega) (by rw [Nat.pow_succ]; omega)
        refine ⟨r, Evn.step ?_⟩
        simp only [spec_l1Read.l0, if_pos h1, if_pos h2, hb, if_neg h3, if_neg h4, dig_int v b (by omega) (by omega) (by omega), wrap_succ (show i < 4611686018427387904 by omega)]
        exact hr
theorem rd_l0_val (w x : ByteArray) (hx : x.size ≤ 6) (hw : ¬ (x.size : Int) < (w.size : Int)) (r : Int × Bool) : ∀ (n i v : Nat), i + n = x.size → v < 10 ^ i → digL (x.data.toList.drop i) →
    Evn (fun k => (spec_l1Num.f k (decV v (x.data.toList.drop i) : Nat)).bind fun t130 => (if t130.toList = w.toList then (some (((decV v (x.data.toList.drop i) : Nat) : Int), true)) else (some ((0 : Int), false)))) r →
    Evn (fun k => spec_l1Read.l0 k w x (v : Int) (i : Int)) r := by
  intro n
  induction n with
  | zero =>
    intro i v hi hv hdg he
    have h1 : ¬ (i : Int) < (x.size : Int) := by omega
    refine Evn.step ?_
    simp only [spec_l1Read.l0, if_neg h1, if_neg hw]
    have hd : x.data.toList.drop i = [] := List.drop_eq_nil_of_le (by rw [size_data]; omega)
    rw [hd] at he
    exact he
  | succ n ih =>
    intro i v hi hv hdg he
    obtain ⟨b, hb, hd⟩ := bt_at x i (by omega)
    have h1 : (i : Int) < (x.size : Int) := by omega
    have h2 : 0 ≤ (i : Int) := by omega
    have hv2 := pow10_le (show i ≤ 6 by omega)
    rw [hd] at hdg he
    have hb2 := hdg b List.mem_cons_self
    have h3 : ¬ (b.toNat : Int) < 48 := by omega
    have h4 : ¬ (b.toNat : Int) > 57 := by omega
    have hr := ih (i + 1) (10 * v + (b.toNat - 48)) (by omega) (by rw [Nat.pow_succ]; omega) (fun c hc => hdg c (List.mem_cons_of_mem _ hc)) he
    refine Evn.step ?_
    simp only [spec_l1Read.l0, if_pos h1, if_pos h2, hb, if_neg h3, if_neg h4, dig_int v b (by omega) (by omega) (by omega), wrap_succ (show i < 4611686018427387904 by omega)]
    exact hr
theorem rd_j1_tot (w x : ByteArray) : ∃ r, Evn (fun k => spec_l1Read.j1 k w x) r := by
  by_cases h : 1 ≤ (x.size : Int) ∧ (x.size : Int) ≤ 6
  · obtain ⟨r, hr⟩ := rd_l0_tot w x (by omega) x.size 0 0 (by omega) (by decide)
    refine ⟨r, Evn.step ?_⟩
    simp only [spec_l1Read.j1, sp_l1In, decide_eq_true h, Option.bind_some, if_true]
    exact hr
  · refine ⟨(0, false), Evn.step ?_⟩
    simp only [spec_l1Read.j1, sp_l1In, decide_eq_false h, Option.bind_some, Bool.false_eq_true, if_false]
    exact Evn.done _
theorem rd_j0_tot (w x : ByteArray) (b : Bool) (hx : 1 ≤ x.size ∨ b = false) : ∃ r, Evn (fun k => spec_l1Read.j0 k w x b) r := by
  cases b with
  | true =>
    obtain ⟨r, hr⟩ := rd_j1_tot w (x.extract 1 x.size)
    refine ⟨r, Evn.step ?_⟩
    have h : 1 ≤ (x.size : Int) := by
      rcases hx with h | h
      · omega
      · cases h
    simp only [spec_l1Read.j0, if_true, if_pos h]
    exact hr
  | false =>
    obtain ⟨r, hr⟩ := rd_j1_tot w x
    refine ⟨r, Evn.step ?_⟩
    simp only [spec_l1Read.j0, Bool.false_eq_true, if_false]
    exact hr
theorem sp_l1Read_tot (w : ByteArray) : ∃ r, Evn (fun k => spec_l1Read.f k w) r := by
  unfold spec_l1Read.f
  by_cases h : (w.size : Int) > 1
  · have h2 : 0 < (w.size : Int) := by omega
    obtain ⟨r, hr⟩ := rd_j0_tot w w (bt w 0 == 45) (.inl (by omega))
    refine ⟨r, ?_⟩
    simp only [if_pos h, if_pos h2]
    exact hr
  · obtain ⟨r, hr⟩ := rd_j0_tot w w false (.inr rfl)
    refine ⟨r, ?_⟩
    simp only [if_neg h]
    exact hr
theorem sp_l1Read_num (n : Nat) (hn : n < 1000000) : Evn (fun k => spec_l1Read.f k (numT n)) ((n : Int), true) := by
  obtain ⟨g1, g2, g3⟩ := numT_digits n
  have hz := numT_size 5 n (by have : (10 : Nat) ^ (5 + 1) = 1000000 := rfl; omega)
  have hj1 : Evn (fun k => spec_l1Read.j1 k (numT n) (numT n)) ((n : Int), true) := by
    refine Evn.step ?_
    have h : 1 ≤ ((numT n).size : Int) ∧ ((numT n).size : Int) ≤ 6 := by omega
    simp only [spec_l1Read.j1, sp_l1In, decide_eq_true h, Option.bind_some, if_true]
    refine rd_l0_val (numT n) (numT n) (by omega) (by omega) _ (numT n).size 0 0 (by omega) (by decide) (by rw [List.drop_zero]; exact g1) ?_
    rw [List.drop_zero, g2]
    refine Evn.bind (sp_l1Num n hn) ?_
    simp only [if_true]
    exact Evn.done _
  have hj0 : Evn (fun k => spec_l1Read.j0 k (numT n) (numT n) false) ((n : Int), true) := by
    refine Evn.step ?_
    simp only [spec_l1Read.j0, Bool.false_eq_true, if_false]
    exact hj1
  unfold spec_l1Read.f
  obtain ⟨b, hb, hd⟩ := bt_at (numT n) 0 (by omega)
  have hb2 := g1 b (by rw [← List.drop_zero (l := (numT n).data.toList), hd]; exact List.mem_cons_self)
  have hb0 : bt (numT n) 0 = (b.toNat : Int) := hb
  have hne : ((b.toNat : Int) == 45) = false := beq_eq_false_iff_ne.2 (by omega)
  refine Evn.ite (fun _ => ?_) (fun _ => hj0)
  refine Evn.pos (by omega) ?_
  rw [hb0, hne]
  exact hj0

/-- What a text's reading is: the trip whose text it is, or nothing. -/
def tripRead (s : ByteArray) (r : Int × Int × Int × Int × Int × Bool) : Prop :=
  (r = (0, 0, 0, 0, 0, false) ∨ ∃ a b c d e : Nat, goodT a b c d e = true ∧ s = tripT a b c d e ∧ r = ((a : Int), (b : Int), (c : Int), (d : Int), (e : Int), true))
  ∧ ∀ a b c d e : Nat, goodT a b c d e = true → s = tripT a b c d e → r = ((a : Int), (b : Int), (c : Int), (d : Int), (e : Int), true)
theorem tripRead_uniq {s : ByteArray} {r r' : Int × Int × Int × Int × Int × Bool} (h : tripRead s r) (h' : tripRead s r') : r = r' := by
  rcases h.1 with e | ⟨a, b, c, d, e, h1, h2, h3⟩
  · rcases h'.1 with e' | ⟨a, b, c, d, x, h1, h2, h3⟩
    · rw [e, e']
    · rw [h3, h.2 a b c d x h1 h2]
  · rw [h3, h'.2 a b c d e h1 h2]
theorem goodT_nat {a b c d e : Int} (h : goodT a b c d e = true) : ∃ a' b' c' d' e' : Nat, a = a' ∧ b = b' ∧ c = c' ∧ d = d' ∧ e = e' ∧ a' ≤ 5 ∧ b' ≤ 12 ∧ c' ≤ 12 ∧ d' ≤ 999 ∧ e' ≤ 999 := by
  have hb : 0 ≤ a ∧ a ≤ 5 ∧ 1 ≤ b ∧ b ≤ 12 ∧ 0 ≤ c ∧ c ≤ 12 ∧ 0 ≤ d ∧ d ≤ 999 ∧ 0 ≤ e ∧ e ≤ 999 := by
    unfold goodT at h
    split at h <;> simp only [Bool.and_eq_true, decide_eq_true_eq, beq_iff_eq] at h <;> omega
  exact ⟨a.toNat, b.toNat, c.toNat, d.toNat, e.toNat, by omega, by omega, by omega, by omega, by omega, by omega, by omega, by omega, by omega, by omega⟩
theorem stW_no (e : Nat) (h : e ≤ 5) : (32 : UInt8) ∉ (stW e).data.toList := by
  have h2 : e = 0 ∨ e = 1 ∨ e = 2 ∨ e = 3 ∨ e = 4 ∨ e = 5 := by omega
  rcases h2 with rfl | rfl | rfl | rfl | rfl | rfl <;> decide
/-- A trip's words. -/
def tripW (a b c d e : Int) : List ByteArray := [stW a, numT c ++ ((⟨#[47]⟩ : ByteArray) ++ numT b), ⟨#[100, 117, 101]⟩, numT d, ⟨#[97, 116]⟩, numT e]
theorem tripT_eq (a b c d e : Int) : tripT a b c d e = stW a ++ ((⟨#[32]⟩ : ByteArray) ++ ((numT c ++ ((⟨#[47]⟩ : ByteArray) ++ numT b)) ++ ((⟨#[32]⟩ : ByteArray) ++ ((⟨#[100, 117, 101]⟩ : ByteArray) ++ ((⟨#[32]⟩ : ByteArray) ++ (numT d ++ ((⟨#[32]⟩ : ByteArray) ++ ((⟨#[97, 116]⟩ : ByteArray) ++ ((⟨#[32]⟩ : ByteArray) ++ numT e))))))))) := by
  unfold tripT
  apply dataExt
  simp
theorem trip_words (a b c d e : Nat) (ha : a ≤ 5) : wordsB 32 (tripT a b c d e) = tripW a b c d e := by
  have hn : ∀ n : Nat, (32 : UInt8) ∉ (numT n).data.toList := fun n => numT_no 32 (by decide) n
  have hb : (32 : UInt8) ∉ (numT c ++ ((⟨#[47]⟩ : ByteArray) ++ numT b)).data.toList := by
    have h1 := hn c
    have h2 := hn b
    simp only [ByteArray.data_append, Array.toList_append, List.mem_append]
    rintro (h | h | h)
    · exact h1 h
    · revert h; decide
    · exact h2 h
  rw [tripT_eq, wordsB_app 32 _ _ (stW_no a ha), wordsB_app 32 _ _ hb, wordsB_app 32 _ _ (by decide), wordsB_app 32 _ _ (hn d), wordsB_app 32 _ _ (by decide), wordsB_one 32 _ (hn e)]
  rfl
theorem trip_people (b c : Nat) : wordsB 47 (numT c ++ ((⟨#[47]⟩ : ByteArray) ++ numT b)) = [numT c, numT b] := by
  have hn : ∀ n : Nat, (47 : UInt8) ∉ (numT n).data.toList := fun n => numT_no 47 (by decide) n
  rw [wordsB_app 47 _ _ (hn c), wordsB_one 47 _ (hn b)]
theorem stW_inj {e e' : Nat} (h : e ≤ 5) (h' : e' ≤ 5) (he : stW e = stW e') : e = e' := by
  have h2 : e = 0 ∨ e = 1 ∨ e = 2 ∨ e = 3 ∨ e = 4 ∨ e = 5 := by omega
  have h3 : e' = 0 ∨ e' = 1 ∨ e' = 2 ∨ e' = 3 ∨ e' = 4 ∨ e' = 5 := by omega
  have he2 : (stW e).data.toList = (stW e').data.toList := by rw [he]
  rcases h2 with rfl | rfl | rfl | rfl | rfl | rfl <;> rcases h3 with rfl | rfl | rfl | rfl | rfl | rfl <;> first | rfl | (exfalso; revert he2; decide)
theorem tripT_state (b c d e : Nat) {a a' : Nat} (h : a ≤ 5) (h' : a' ≤ 5) (he : tripT a b c d e = tripT a' b c d e) : a = a' := by
  have := trip_words a b c d e h
  rw [he, trip_words a' b c d e h'] at this
  simp only [tripW, List.cons.injEq] at this
  exact stW_inj h h' this.1.symm
theorem tripT_size (a b c d e : Nat) (ha : a ≤ 5) (hb : b ≤ 12) (hc : c ≤ 12) (hd : d ≤ 999) (he : e ≤ 999) : (tripT a b c d e).size ≤ 40 := by
  have zb := numT_size 1 b (by have : (10 : Nat) ^ (1 + 1) = 100 := rfl; omega)
  have zc := numT_size 1 c (by have : (10 : Nat) ^ (1 + 1) = 100 := rfl; omega)
  have zd := numT_size 2 d (by have : (10 : Nat) ^ (2 + 1) = 1000 := rfl; omega)
  have ze := numT_size 2 e (by have : (10 : Nat) ^ (2 + 1) = 1000 := rfl; omega)
  have za := stW_size6 a (by omega) (by omega)
  unfold tripT
  simp only [ByteArray.size_append, sz1, sz4, sz5, sz6, sz7]
  omega
theorem sp_ParseTrip_l0 (s : ByteArray) (b c d e : Int) : ∀ (n i : Nat) (z : Int), i + n = 6 → ∃ r, Evn (fun k => spec_ParseTrip.l0 k s (i : Int) z b c d e) r
    ∧ (r = (0, 0, 0, 0, 0, false) ∨ ∃ a : Nat, goodT a b c d e = true ∧ s = tripT a b c d e ∧ r = ((a : Int), b, c, d, e, true))
    ∧ ((∃ a : Nat, i ≤ a ∧ goodT a b c d e = true ∧ s = tripT a b c d e) → r.2.2.2.2.2 = true) := by
  intro n
  induction n with
  | zero =>
    intro i z hi
    refine ⟨(0, 0, 0, 0, 0, false), Evn.step ?_, .inl rfl, ?_⟩
    · have h1 : ¬ (i : Int) ≤ 5 := by omega
      simp only [spec_ParseTrip.l0, if_neg h1]
      exact Evn.done _
    · rintro ⟨a, h1, h2, _⟩
      obtain ⟨a', _, _, _, _, h3, _, _, _, _, h4⟩ := goodT_nat h2
      omega
  | succ n ih =>
    intro i z hi
    obtain ⟨r, hr, hr1, hr2⟩ := ih (i + 1) (i : Int) (by omega)
    have h1 : (i : Int) ≤ 5 := by omega
    have hw := wrap_succ (show i < 4611686018427387904 by omega)
    have hg := sp_l21Good (i : Int) b c d e
    by_cases hok : goodT (i : Int) b c d e = true
    · rw [hok] at hg
      obtain ⟨a', b', c', d', e', ha', rfl, rfl, rfl, rfl, hb⟩ := goodT_nat hok
      have ht := sp_l21Text (i : Int) b' c' d' e' (by omega) (by omega) (by omega) (by omega) (by omega) (by omega)
      by_cases hs : (tripT (i : Int) b' c' d' e').toList = s.toList
      · have hse := byteL_eq hs
        refine ⟨((i : Int), (b' : Int), (c' : Int), (d' : Int), (e' : Int), true), Evn.step ?_, .inr ⟨i, hok, hse.symm, rfl⟩, fun _ => rfl⟩
        simp only [spec_ParseTrip.l0, if_pos h1]
        refine Evn.bind hg ?_
        simp only [if_true]
        refine Evn.bind ht ?_
        simp only [if_pos hs]
        exact Evn.done _
      · refine ⟨r, Evn.step ?_, hr1, ?_⟩
        · simp only [spec_ParseTrip.l0, if_pos h1]
          refine Evn.bind hg ?_
          simp only [if_true]
          refine Evn.bind ht ?_
          simp only [if_neg hs, hw]
          exact hr
        · rintro ⟨a, g1, g2, g3⟩
          refine hr2 ⟨a, ?_, g2, g3⟩
          rcases Nat.lt_or_ge i a with h | h
          · exact h
          · obtain rfl : a = i := by omega
            exact absurd (by rw [g3]) hs
    · rw [Bool.not_eq_true] at hok
      rw [hok] at hg
      refine ⟨r, Evn.step ?_, hr1, ?_⟩
      · simp only [spec_ParseTrip.l0, if_pos h1]
        refine Evn.bind hg ?_
        simp only [Bool.false_eq_true, if_false, hw]
        exact hr
      · rintro ⟨a, g1, g2, g3⟩
        refine hr2 ⟨a, ?_, g2, g3⟩
        rcases Nat.lt_or_ge i a with h | h
        · exact h
        · obtain rfl : a = i := by omega
          rw [hok] at g2
          cases g2
theorem sp_ParseTrip_j0t (s : ByteArray) (ws : List ByteArray) : Evn (fun k => spec_ParseTrip.j0 k s ws true) (0, 0, 0, 0, 0, false) := by
  refine Evn.step ?_
  simp only [spec_ParseTrip.j0, if_true]
  exact Evn.done _
theorem trip_key (s : ByteArray) (a b c d e : Nat) (h : goodT a b c d e = true) (h2 : s = tripT a b c d e) : wordsB 32 s = tripW a b c d e ∧ s.size ≤ 40 := by
  obtain ⟨a', b', c', d', e', ha, hb, hc, hd, he, h3⟩ := goodT_nat h
  subst h2
  exact ⟨trip_words a b c d e (by omega), tripT_size a b c d e (by omega) (by omega) (by omega) (by omega) (by omega)⟩
theorem tripRead_zero (s : ByteArray) (h : ∀ a b c d e : Nat, goodT a b c d e = true → s = tripT a b c d e → False) : tripRead s (0, 0, 0, 0, 0, false) := ⟨.inl rfl, fun a b c d e h1 h2 => (h a b c d e h1 h2).elim⟩
theorem sp_ParseTrip (s : ByteArray) (hs : s.size ≤ 1048576) : ∃ r, Evn (fun k => spec_ParseTrip.f k s) r ∧ tripRead s r := by
  have hsp := sp_l1Split s 32 (by omega) 32 rfl
  have key := trip_key s
  have hz := wordsB_size 32 s
  generalize wordsB 32 s = ws at hsp key hz
  unfold spec_ParseTrip.f
  by_cases h1 : (s.size : Int) > 40
  · refine ⟨(0, 0, 0, 0, 0, false), Evn.bind hsp ?_, tripRead_zero s fun a b c d e g1 g2 => by have := (key a b c d e g1 g2).2; omega⟩
    simp only [if_pos h1]
    exact sp_ParseTrip_j0t _ _
  · by_cases h2 : (ws.length : Int) = 6
    · have w1 : 1 < (ws.length : Int) := by omega
      have w3 : 3 < (ws.length : Int) := by omega
      have w5 : 5 < (ws.length : Int) := by omega
      have z1 := hz _ (rdOf_mem ws 1 (by omega))
      have hn : ((ws.length : Int) != 6) = false := bne_eq_false_iff_eq.2 h2
      have hp := sp_l1Split (rdOf ByteArray.empty ws 1) 47 (Nat.lt_of_le_of_lt z1 (by omega)) 47 rfl
      have pkey : ∀ a b c d e : Nat, goodT a b c d e = true → s = tripT a b c d e → wordsB 47 (rdOf ByteArray.empty ws 1) = [numT c, numT b] := fun a b c d e g1 g2 => by
        rw [(key a b c d e g1 g2).1]
        exact trip_people b c
      generalize wordsB 47 (rdOf ByteArray.empty ws 1) = ps at hp pkey
      by_cases h3 : (ps.length : Int) = 2
      · have p0 : 0 < (ps.length : Int) := by omega
        have p1 : 1 < (ps.length : Int) := by omega
        obtain ⟨r1, hr1⟩ := sp_l1Read_tot (rdOf ByteArray.empty ps 0)
        obtain ⟨r2, hr2⟩ := sp_l1Read_tot (rdOf ByteArray.empty ps 1)
        obtain ⟨r3, hr3⟩ := sp_l1Read_tot (rdOf ByteArray.empty ws 3)
        obtain ⟨r4, hr4⟩ := sp_l1Read_tot (rdOf ByteArray.empty ws 5)
        obtain ⟨r, hr, hra, hrb⟩ := sp_ParseTrip_l0 s r2.1 r1.1 r3.1 r4.1 6 0 0 (by omega)
        refine ⟨r, Evn.bind hsp ?_, ?_, ?_⟩
        · simp only [if_neg h1, hn]
          refine Evn.step ?_
          simp only [spec_ParseTrip.j0, Bool.false_eq_true, if_false, if_pos w1]
          refine Evn.bind hp ?_
          simp only [if_pos h3, if_pos p0]
          refine Evn.bind hr1 ?_
          simp only [if_pos p1]
          refine Evn.bind hr2 ?_
          simp only [if_pos w3]
          refine Evn.bind hr3 ?_
          simp only [if_pos w5]
          refine Evn.bind hr4 ?_
          exact hr
        · rcases hra with h | ⟨a, g1, g2, g3⟩
          · exact .inl h
          · obtain ⟨a', b', c', d', e', ha, hb, hc, hd, he, _⟩ := goodT_nat g1
            rw [hb, hc, hd, he] at g1 g2 g3
            exact .inr ⟨a, b', c', d', e', g1, g2, g3⟩
        · intro a b c d e g1 g2
          obtain ⟨a', b', c', d', e', ha, hb, hc, hd, he, h6⟩ := goodT_nat g1
          have ew := (key a b c d e g1 g2).1
          have ep := pkey a b c d e g1 g2
          rw [ew] at hr3 hr4
          rw [ep] at hr1 hr2
          obtain rfl := hr1.uniq (sp_l1Read_num c (by omega))
          obtain rfl := hr2.uniq (sp_l1Read_num b (by omega))
          obtain rfl := hr3.uniq (sp_l1Read_num d (by omega))
          obtain rfl := hr4.uniq (sp_l1Read_num e (by omega))
          have ht := hrb ⟨a, Nat.zero_le _, g1, g2⟩
          rcases hra with h | ⟨x, p1, p2, p3⟩
          · rw [h] at ht
            cases ht
          · obtain ⟨x', _, _, _, _, hx', _, _, _, _, h7⟩ := goodT_nat p1
            obtain rfl := tripT_state b c d e (by omega) (by omega) (p2.symm.trans g2)
            exact p3
      · refine ⟨(0, 0, 0, 0, 0, false), Evn.bind hsp ?_, tripRead_zero s fun a b c d e g1 g2 => by rw [pkey a b c d e g1 g2] at h3; exact h3 rfl⟩
        simp only [if_neg h1, hn]
        refine Evn.step ?_
        simp only [spec_ParseTrip.j0, Bool.false_eq_true, if_false, if_pos w1]
        refine Evn.bind hp ?_
        simp only [if_neg h3]
        exact Evn.done _
    · have hn : ((ws.length : Int) != 6) = true := bne_iff_ne.2 h2
      refine ⟨(0, 0, 0, 0, 0, false), Evn.bind hsp ?_, tripRead_zero s fun a b c d e g1 g2 => by rw [(key a b c d e g1 g2).1] at h2; exact h2 rfl⟩
      simp only [if_neg h1, hn]
      exact sp_ParseTrip_j0t _ _

def okT (x : S25) : Bool := goodT x.f0 x.f1 x.f2 x.f3 x.f4
theorem sp_l21All_l0 (xs : List S25) (hx : xs.length ≤ 4194304) : ∀ (d i : Nat), i + d = xs.length → Evn (fun k => spec_l21All.l0 k xs (i : Int)) ((xs.drop i).all okT) := by
  intro d
  induction d with
  | zero =>
    intro i h
    refine Evn.step ?_
    have h1 : ¬ (i : Int) < (xs.length : Int) := by omega
    simp only [spec_l21All.l0, if_neg h1]
    rw [List.drop_eq_nil_of_le (by omega)]
    exact Evn.done _
  | succ d ih =>
    intro i h
    refine Evn.step ?_
    have h1 : (i : Int) < (xs.length : Int) := by omega
    have h2 : 0 ≤ (i : Int) := by omega
    simp only [spec_l21All.l0, if_pos h1, if_pos h2, wrap_succ (show i < 4611686018427387904 by omega), rd_T25, Int.toNat_natCast]
    rw [getD_drop xs i z25 (by omega), List.all_cons]
    refine Evn.bind (sp_l21Good _ _ _ _ _) ?_
    exact Evn.ite (fun c => (ih (i + 1) (by omega)).eq_ (by simp only [okT, c, Bool.true_and])) (fun c => (Evn.done _).eq_ (by simp only [okT, Bool.eq_false_iff.mpr c, Bool.false_and]))
theorem sp_l21All (xs : List S25) (hx : xs.length ≤ 4194304) : Evn (fun k => spec_l21All.f k xs) (xs.all okT) := by
  have h := sp_l21All_l0 xs hx xs.length 0 (by omega)
  simpa [spec_l21All.f] using h

def lateT (t : Int) (x : S25) : Bool := decide (x.f0 = 2) || (decide (x.f0 = 3) || (decide (x.f0 = 1) && decide (t > x.f3)))
def lateFrom (xs : List S25) (t : Int) : Nat → Nat → List Int
  | 0, _ => []
  | d + 1, i => if lateT t (xs.getD i z25) = true then (i : Int) :: lateFrom xs t d (i + 1) else lateFrom xs t d (i + 1)
theorem lateFrom_len (xs : List S25) (t : Int) : ∀ d i, (lateFrom xs t d i).length ≤ d := by
  intro d
  induction d with
  | zero => intro i; exact Nat.le_refl _
  | succ d ih =>
    intro i
    have := ih (i + 1)
    unfold lateFrom
    split
    · rw [List.length_cons]; omega
    · omega
def lateTs (xs : List S25) (t : Int) : List Int × Bool := if xs.all okT = true ∧ (0 ≤ t ∧ t ≤ 999) then (lateFrom xs t xs.length 0, true) else ([], false)
theorem sp_OverdueTrips_l0 (xs : List S25) (t : Int) (hx : xs.length ≤ 4194304) : ∀ (d i : Nat) (zs : List Int), i + d = xs.length → zs.length ≤ i → Evn (fun k => spec_OverdueTrips.l0 k xs t zs (i : Int)) (zs ++ lateFrom xs t d i, true) := by
  intro d
  induction d with
  | zero =>
    intro i zs h hz
    refine Evn.step ?_
    have h1 : ¬ (i : Int) < (xs.length : Int) := by omega
    simp only [spec_OverdueTrips.l0, if_neg h1, lateFrom, List.append_nil]
    exact Evn.done _
  | succ d ih =>
    intro i zs h hz
    have h1 : (i : Int) < (xs.length : Int) := by omega
    have h2 : 0 ≤ (i : Int) := by omega
    have hw := wrap_succ (show i < 4611686018427387904 by omega)
    have no : lateT t (xs.getD i z25) = false → Evn (fun k => spec_OverdueTrips.l0 k xs t zs ((i + 1 : Nat) : Int)) (zs ++ lateFrom xs t (d + 1) i, true) := by
      intro hc
      simp only [lateFrom, hc, Bool.false_eq_true, if_false]
      exact ih (i + 1) zs (by clear hw; omega) (by clear hw; omega)
    have yes : lateT t (xs.getD i z25) = true → Evn (fun k => if zs.length < 17592186044416 then spec_OverdueTrips.l0 k xs t (zs ++ [(i : Int)]) ((i + 1 : Nat) : Int) else none) (zs ++ lateFrom xs t (d + 1) i, true) := by
      intro hc
      simp only [lateFrom, hc, if_true]
      refine Evn.ite (fun _ => ?_) (fun c => absurd (by clear hw; omega) c)
      have h3 := ih (i + 1) (zs ++ [(i : Int)]) (by clear hw; omega) (by rw [List.length_append, List.length_singleton]; clear hw; omega)
      rw [List.append_assoc] at h3
      exact h3
    refine Evn.step ?_
    simp only [spec_OverdueTrips.l0, if_pos h1, if_pos h2, hw, rd_T25, Int.toNat_natCast]
    refine Evn.ite (fun c => yes (by simp only [lateT, decide_eq_true c, Bool.true_or])) (fun c => ?_)
    refine Evn.ite (fun c2 => yes (by simp only [lateT, decide_eq_true c2, Bool.true_or, Bool.or_true])) (fun c2 => ?_)
    refine Evn.ite (fun c3 => ?_) (fun c3 => no (by simp only [lateT, decide_eq_false c, decide_eq_false c2, decide_eq_false c3, Bool.false_and, Bool.or_false]))
    exact Evn.ite (fun c4 => yes (by simp only [lateT, decide_eq_true c3, decide_eq_true c4, Bool.and_true, Bool.or_true])) (fun c4 => no (by simp only [lateT, decide_eq_false c, decide_eq_false c2, decide_eq_false c4, Bool.and_false, Bool.or_false]))
theorem sp_OverdueTrips (xs : List S25) (t : Int) (hx : xs.length ≤ 4194304) : Evn (fun k => spec_OverdueTrips.f k xs t) (lateTs xs t) := by
  unfold spec_OverdueTrips.f lateTs
  simp only [Option.bind_some]
  refine Evn.bind (sp_l21All xs hx) ?_
  refine Evn.ite (fun c => ?_) (fun c => ?_)
  · simp only [sp_l21Time, Option.bind_some]
    refine Evn.step ?_
    simp only [spec_OverdueTrips.j0]
    refine Evn.ite (fun c1 => ?_) (fun c1 => ?_)
    · rw [if_neg (by intro h; have h2 := decide_eq_true h.2; rw [h2] at c1; cases c1)]
      exact Evn.done _
    · rw [if_pos ⟨c, by simpa using c1⟩]
      have h := sp_OverdueTrips_l0 xs t hx xs.length 0 [] (by omega) (by simp)
      simpa using h
  · refine Evn.step ?_
    simp only [spec_OverdueTrips.j0, if_true]
    rw [if_neg (fun h => c h.1)]
    exact Evn.done _

def sumT (xs : List S25) : Nat → Nat → Int → Int
  | 0, _, s => s
  | d + 1, i, s => sumT xs d (i + 1) (wrap64 (s + (xs.getD i z25).f2))
def insideT (xs : List S25) : Int × Bool := if xs.all okT = true then (sumT xs xs.length 0 0, true) else (0, false)
theorem sp_PeopleInside_l0 (xs : List S25) (hx : xs.length ≤ 4194304) : ∀ (d i : Nat) (s : Int), i + d = xs.length → Evn (fun k => spec_PeopleInside.l0 k xs s (i : Int)) (sumT xs d i s, true) := by
  intro d
  induction d with
  | zero =>
    intro i s h
    refine Evn.step ?_
    have h1 : ¬ (i : Int) < (xs.length : Int) := by omega
    simp only [spec_PeopleInside.l0, if_neg h1, sumT]
    exact Evn.done _
  | succ d ih =>
    intro i s h
    refine Evn.step ?_
    have h1 : (i : Int) < (xs.length : Int) := by omega
    have h2 : 0 ≤ (i : Int) := by omega
    simp only [spec_PeopleInside.l0, if_pos h1, if_pos h2, wrap_succ (show i < 4611686018427387904 by omega), rd_T25, Int.toNat_natCast, sumT]
    exact ih (i + 1) _ (by omega)
theorem sp_PeopleInside (xs : List S25) (hx : xs.length ≤ 4194304) : Evn (fun k => spec_PeopleInside.f k xs) (insideT xs) := by
  unfold spec_PeopleInside.f insideT
  refine Evn.bind (sp_l21All xs hx) ?_
  refine Evn.ite (fun c => ?_) (fun c => ?_)
  · rw [if_pos c]
    exact sp_PeopleInside_l0 xs hx xs.length 0 0 (by omega)
  · rw [if_neg c]
    exact Evn.done _

/-! The draws: a cursor over bytes. -/
def Byts (l : List Int) : Prop := ∀ x ∈ l, 0 ≤ x ∧ x ≤ 255
theorem bits255 (x : Int) : 0 ≤ Go.bits .and .u64 x 255 ∧ Go.bits .and .u64 x 255 ≤ 255 := by
  have h : (BitVec.ofInt 64 x &&& BitVec.ofInt 64 255).toNat ≤ 255 := by rw [BitVec.toNat_and]; exact Nat.le_trans Nat.and_le_right (by decide)
  have e : Go.bits .and .u64 x 255 = IntKind.u64.wrap ((BitVec.ofInt 64 x &&& BitVec.ofInt 64 255).toNat : Int) := rfl
  rw [e, IntKind.wrap_u64]
  omega
theorem Byts.at_ {l : List Int} (h : Byts l) (p : Int) : 0 ≤ rd l p ∧ rd l p ≤ 255 := by
  unfold rd
  by_cases g : p.toNat < l.length
  · rw [List.getD_eq_getElem?_getD, List.getElem?_eq_getElem g, Option.getD_some]
    exact h _ (List.getElem_mem g)
  · rw [List.getD_eq_getElem?_getD, List.getElem?_eq_none (by omega), Option.getD_none]
    omega
theorem dw_next {l : List Int} {p : Int} (hl : Byts l) (h0 : 0 ≤ p) (h1 : p ≤ 2000000000) (s : Int) : ∃ r, spec_l1Cur_next.f l p s = some r ∧ 0 ≤ r.1 ∧ r.1 ≤ 255 ∧ r.2.1 = p + 1 := by
  have hr := hl.at_ p
  have e : wrap64 (rd l p) = rd l p := wrap_id (by omega) (by omega)
  have e2 : wrap64 (p + 1) = p + 1 := wrap_id (by omega) (by omega)
  unfold spec_l1Cur_next.f
  rw [e, e2]
  split
  · (try rw [if_pos h0])
    split
    · exact ⟨_, rfl, hr.1, hr.2, rfl⟩
    · refine ⟨_, rfl, ?_, ?_, rfl⟩
      · dsimp only; rw [wrap_id (by have := bits255; exact Int.le_trans (by decide) (this _).1) (Int.le_trans (bits255 _).2 (by decide))]; exact (bits255 _).1
      · dsimp only; rw [wrap_id (by have := bits255; exact Int.le_trans (by decide) (this _).1) (Int.le_trans (bits255 _).2 (by decide))]; exact (bits255 _).2
  · split
    · exact ⟨_, rfl, by dsimp only; omega, by dsimp only; omega, rfl⟩
    · refine ⟨_, rfl, ?_, ?_, rfl⟩
      · dsimp only; rw [wrap_id (by have := bits255; exact Int.le_trans (by decide) (this _).1) (Int.le_trans (bits255 _).2 (by decide))]; exact (bits255 _).1
      · dsimp only; rw [wrap_id (by have := bits255; exact Int.le_trans (by decide) (this _).1) (Int.le_trans (bits255 _).2 (by decide))]; exact (bits255 _).2

theorem tmod_in {x n : Int} (hx : 0 ≤ x) (hn : 1 < n) : 0 ≤ Int.tmod x n ∧ Int.tmod x n < n := by
  rw [Int.tmod_eq_emod_of_nonneg hx]
  exact ⟨Int.emod_nonneg _ (by omega), Int.emod_lt_of_pos _ (by omega)⟩
theorem dw_pick {l : List Int} {p : Int} (hl : Byts l) (h0 : 0 ≤ p) (h1 : p ≤ 1000000000) (s n : Int) : ∃ r, spec_l1Cur_pick.f l p s n = some r ∧ 0 ≤ r.1 ∧ (r.1 < n ∨ r.1 = 0) ∧ p ≤ r.2.1 ∧ r.2.1 ≤ p + 2 := by
  unfold spec_l1Cur_pick.f
  by_cases c : n ≤ 1
  · rw [if_pos c]
    exact ⟨_, rfl, by dsimp only; omega, Or.inr rfl, Int.le_refl _, by dsimp only; omega⟩
  · rw [if_neg c]
    obtain ⟨a, ha, a0, a1, a2⟩ := dw_next hl h0 (by omega) s
    rw [ha, Option.bind_some]
    split
    · obtain ⟨b, hb, b0, b1, b2⟩ := dw_next hl (p := a.2.1) (by omega) (by omega) a.2.2
      rw [hb, Option.bind_some, if_neg (by omega)]
      have t := tmod_in (x := wrap64 (wrap64 (a.1 * 256) + b.1)) (n := n) (by rw [wrap_id (x := a.1 * 256) (by omega) (by omega), wrap_id (by omega) (by omega)]; omega) (by omega)
      exact ⟨_, rfl, t.1, Or.inl t.2, by dsimp only; omega, by dsimp only; omega⟩
    · rw [if_neg (by omega)]
      have t := tmod_in (x := a.1) (n := n) a0 (by omega)
      exact ⟨_, rfl, t.1, Or.inl t.2, by dsimp only; omega, by dsimp only; omega⟩

theorem dw_one {l : List Int} {p : Int} (hl : Byts l) (h0 : 0 ≤ p) (h1 : p ≤ 1000000000) (s n : Int) : ∃ r, spec_l1Cur_one.f l p s n = some r ∧ p ≤ r.2.1 ∧ r.2.1 ≤ p + 2 := by
  unfold spec_l1Cur_one.f
  obtain ⟨a, ha, a0, a1, a2, a3⟩ := dw_pick hl h0 h1 s n
  rw [ha, Option.bind_some]
  exact ⟨_, rfl, a2, a3⟩

theorem rd_mem {L : List Int} {i : Int} (h0 : 0 ≤ i) (h1 : i < L.length) : rd L i ∈ L := by
  unfold rd
  rw [List.getD_eq_getElem?_getD, List.getElem?_eq_getElem (by omega), Option.getD_some]
  exact List.getElem_mem _
theorem dw_among {l : List Int} {p : Int} (hl : Byts l) (h0 : 0 ≤ p) (h1 : p ≤ 1000000000) (s : Int) (L : List Int) (hL : 0 < L.length) : ∃ r, spec_l1Cur_among.f l p s L = some r ∧ r.1 ∈ L ∧ p ≤ r.2.1 ∧ r.2.1 ≤ p + 2 := by
  unfold spec_l1Cur_among.f
  obtain ⟨a, ha, a0, a1, a2, a3⟩ := dw_pick hl h0 h1 s (L.length : Int)
  have a4 : a.1 < (L.length : Int) := by omega
  rw [ha, Option.bind_some, if_pos a0, if_pos a4]
  exact ⟨_, rfl, rd_mem a0 a4, a2, a3⟩

/-- A draw that comes to an end, with few bytes. -/
theorem dw_tripStep {l : List Int} {p : Int} (hl : Byts l) (h0 : 0 ≤ p) (h1 : p ≤ 900000000) (s : Int) : ∃ r, Evn (fun k => spec_l1Cur_tripStep.f k l p s) r ∧ p ≤ r.2.2.1 ∧ r.2.2.1 ≤ p + 8 := by
  have fin : ∀ (q t a b : Int), p ≤ q → q ≤ p + 4 → ∃ r, Evn (fun k => spec_l1Cur_tripStep.j1 k l q t a b) r ∧ p ≤ r.2.2.1 ∧ r.2.2.1 ≤ p + 8 := by
    intro q t a b hq hq2
    obtain ⟨u, hu, u0, u1, u2, u3⟩ := dw_pick hl (p := q) (by omega) (by omega) t 40
    by_cases c1 : u.1 = 0
    · obtain ⟨v, hv, _, v2, v3⟩ := dw_among hl (p := u.2.1) (by omega) (by omega) u.2.2 [0, 7] (by decide)
      refine ⟨(v.1, b, v.2.1, v.2.2), Evn.step ?_, by dsimp only; omega, by dsimp only; omega⟩
      simp only [spec_l1Cur_tripStep.j1, hu, Option.bind_some, if_pos c1, hv]
      exact Evn.done _
    · by_cases c2 : u.1 = 1
      · obtain ⟨v, hv, _, v2, v3⟩ := dw_among hl (p := u.2.1) (by omega) (by omega) u.2.2 [-1, 0, 1000] (by decide)
        refine ⟨(a, v.1, v.2.1, v.2.2), Evn.step ?_, by dsimp only; omega, by dsimp only; omega⟩
        simp only [spec_l1Cur_tripStep.j1, hu, Option.bind_some, if_neg c1, if_pos c2, hv]
        exact Evn.done _
      · refine ⟨(a, b, u.2.1, u.2.2), Evn.step ?_, by dsimp only; omega, by dsimp only; omega⟩
        simp only [spec_l1Cur_tripStep.j1, hu, Option.bind_some, if_neg c1, if_neg c2]
        exact Evn.done _
  have fin0 : ∀ (x : Bool) (q t a b : Int), p ≤ q → q ≤ p + 4 → ∃ r, Evn (fun k => spec_l1Cur_tripStep.j0 k x l q t a b) r ∧ p ≤ r.2.2.1 ∧ r.2.2.1 ≤ p + 8 := by
    intro x q t a b hq hq2
    cases x with
    | true =>
      obtain ⟨r, hr, h2⟩ := fin q t a 0 hq hq2
      refine ⟨r, Evn.step ?_, h2⟩
      simp only [spec_l1Cur_tripStep.j0, if_true]
      exact hr
    | false =>
      obtain ⟨r, hr, h2⟩ := fin q t a b hq hq2
      refine ⟨r, Evn.step ?_, h2⟩
      simp only [spec_l1Cur_tripStep.j0, Bool.false_eq_true, if_false]
      exact hr
  obtain ⟨a, ha, _, a2, a3⟩ := dw_among hl h0 (by omega) s [1, 1, 2, 2, 3, 3, 3, 4, 5, 6] (by decide)
  obtain ⟨b, hb, _, b2, b3⟩ := dw_among hl (p := a.2.1) (by omega) (by omega) a.2.2 [1, 1, 2, 3, 10, 50] (by decide)
  unfold spec_l1Cur_tripStep.f
  simp only [ha, hb, Option.bind_some]
  by_cases c : a.1 = 4
  · simp only [if_pos c]
    exact fin0 _ _ _ _ _ (by omega) (by omega)
  · simp only [if_neg c]
    exact fin0 _ _ _ _ _ (by omega) (by omega)

theorem dw_trip_l0 {l : List Int} (hl : Byts l) : ∀ (D : Nat) (p s a b c d e : Int), 0 ≤ p → p ≤ 800000000 - 10 * (D : Int) → ∃ r, Evn (fun k => spec_l1Cur_trip.l0 k (D : Int) l p s a b c d e) r ∧ p ≤ r.2.2.2.2.2.1 ∧ r.2.2.2.2.2.1 ≤ p + 4 + 10 * (D : Int) := by
  intro D
  induction D with
  | zero =>
    intro p s a b c d e h0 h1
    obtain ⟨u, hu, u0, u1, u2, u3⟩ := dw_pick hl h0 (by omega) s 32
    have hn : ¬ ((0 : Nat) : Int) > 0 := by decide
    by_cases c1 : u.1 = 0
    · obtain ⟨v, hv, _, v2, v3⟩ := dw_among hl (p := u.2.1) (by omega) (by omega) u.2.2 [-1, 1, 2, 6] (by decide)
      refine ⟨(v.1, b, c, d, e, v.2.1, v.2.2), Evn.step ?_, by dsimp only; omega, by dsimp only; omega⟩
      simp only [spec_l1Cur_trip.l0, if_neg hn, hu, Option.bind_some, if_pos c1, hv]
      exact Evn.done _
    · by_cases c2 : u.1 = 1
      · refine ⟨(a, b, wrap64 (c + 1), d, e, u.2.1, u.2.2), Evn.step ?_, by dsimp only; omega, by dsimp only; omega⟩
        simp only [spec_l1Cur_trip.l0, if_neg hn, hu, Option.bind_some, if_neg c1, if_pos c2]
        exact Evn.done _
      · by_cases c3 : u.1 = 2
        · obtain ⟨v, hv, _, v2, v3⟩ := dw_among hl (p := u.2.1) (by omega) (by omega) u.2.2 [-1, 5, 1000] (by decide)
          refine ⟨(a, b, c, v.1, e, v.2.1, v.2.2), Evn.step ?_, by dsimp only; omega, by dsimp only; omega⟩
          simp only [spec_l1Cur_trip.l0, if_neg hn, hu, Option.bind_some, if_neg c1, if_neg c2, if_pos c3, hv]
          exact Evn.done _
        · refine ⟨(a, b, c, d, e, u.2.1, u.2.2), Evn.step ?_, by dsimp only; omega, by dsimp only; omega⟩
          simp only [spec_l1Cur_trip.l0, if_neg hn, hu, Option.bind_some, if_neg c1, if_neg c2, if_neg c3]
          exact Evn.done _
  | succ D ih =>
    intro p s a b c d e h0 h1
    obtain ⟨u, hu, u2, u3⟩ := dw_tripStep hl h0 (by omega) s
    have hp : ((D + 1 : Nat) : Int) > 0 := by omega
    have hw : wrap64 (((D + 1 : Nat) : Int) - 1) = (D : Int) := wrap_pred (by omega)
    -- the round's second half
    have go1 : ∀ (x : Bool) (q t y z : Int), p ≤ q → q ≤ p + 10 → ∃ r, Evn (fun k => spec_l1Cur_trip.j1 k ((D + 1 : Nat) : Int) x l q t a b c d e y z) r ∧ p ≤ r.2.2.2.2.2.1 ∧ r.2.2.2.2.2.1 ≤ p + 4 + 10 * ((D + 1 : Nat) : Int) := by
      intro x q t y z hq hq2
      have go2 : ∀ a b c d e, ∃ r, Evn (fun k => spec_l1Cur_trip.l0 k (D : Int) l q t a b c d e) r ∧ p ≤ r.2.2.2.2.2.1 ∧ r.2.2.2.2.2.1 ≤ p + 4 + 10 * ((D + 1 : Nat) : Int) := by
        intro a b c d e
        obtain ⟨r, hr, r1, r2⟩ := ih q t a b c d e (by omega) (by omega)
        exact ⟨r, hr, by omega, by omega⟩
      cases x with
      | false =>
        obtain ⟨r, hr, h2⟩ := go2 a b c d e
        refine ⟨r, Evn.step ?_, h2⟩
        simp only [spec_l1Cur_trip.j1, Bool.false_eq_true, if_false, hw]
        exact hr
      | true =>
        have hs := sp_StepTrip a b c d e y z
        generalize stepTs a b c d e y z = T at hs
        by_cases cT : T.2.2.2.2.2 = true
        · obtain ⟨r, hr, h2⟩ := go2 T.1 T.2.1 T.2.2.1 T.2.2.2.1 T.2.2.2.2.1
          refine ⟨r, Evn.step ?_, h2⟩
          simp only [spec_l1Cur_trip.j1, if_true, hw]
          refine Evn.bind hs ?_
          simp only [if_pos cT]
          exact hr
        · obtain ⟨r, hr, h2⟩ := go2 a b c d e
          refine ⟨r, Evn.step ?_, h2⟩
          simp only [spec_l1Cur_trip.j1, if_true, hw]
          refine Evn.bind hs ?_
          simp only [if_neg cT]
          exact hr
    by_cases c1 : goodS u.1 u.2.1 = true
    · by_cases c2 : u.1 = 5
      · obtain ⟨v, hv, v2, v3⟩ := dw_one hl (p := u.2.2.1) (by omega) (by omega) u.2.2.2 8
        obtain ⟨r, hr, h2⟩ := go1 v.1 v.2.1 v.2.2 u.1 u.2.1 (by omega) (by omega)
        refine ⟨r, Evn.step ?_, h2⟩
        simp only [spec_l1Cur_trip.l0, if_pos hp]
        refine Evn.bind hu ?_
        simp only [sp_l21Step, Option.bind_some, if_pos c1, if_pos c2, hv]
        exact hr
      · obtain ⟨r, hr, h2⟩ := go1 true u.2.2.1 u.2.2.2 u.1 u.2.1 (by omega) (by omega)
        refine ⟨r, Evn.step ?_, h2⟩
        simp only [spec_l1Cur_trip.l0, if_pos hp]
        refine Evn.bind hu ?_
        simp only [sp_l21Step, Option.bind_some, if_pos c1, if_neg c2]
        exact hr
    · obtain ⟨v, hv, v2, v3⟩ := dw_one hl (p := u.2.2.1) (by omega) (by omega) u.2.2.2 8
      obtain ⟨r, hr, h2⟩ := go1 v.1 v.2.1 v.2.2 u.1 u.2.1 (by omega) (by omega)
      refine ⟨r, Evn.step ?_, h2⟩
      simp only [spec_l1Cur_trip.l0, if_pos hp]
      refine Evn.bind hu ?_
      simp only [sp_l21Step, Option.bind_some, if_neg c1, hv]
      exact hr
theorem dw_trip {l : List Int} {p : Int} (hl : Byts l) (h0 : 0 ≤ p) (h1 : p ≤ 700000000) (s : Int) : ∃ r, Evn (fun k => spec_l1Cur_trip.f k l p s) r ∧ p ≤ r.2.2.2.2.2.1 ∧ r.2.2.2.2.2.1 ≤ p + 100 := by
  unfold spec_l1Cur_trip.f
  obtain ⟨a, ha, a0, a1, a2, a3⟩ := dw_pick hl h0 (by omega) s 6
  obtain ⟨b, hb, _, b2, b3⟩ := dw_among hl (p := a.2.1) (by omega) (by omega) a.2.2 [10, 50, 100, 999] (by decide)
  obtain ⟨c, hc, c0, c1, c2, c3⟩ := dw_pick hl (p := b.2.1) (by omega) (by omega) b.2.2 12
  obtain ⟨d, hd, d0, d1, d2, d3⟩ := dw_pick hl (p := c.2.1) (by omega) (by omega) c.2.2 7
  simp only [ha, hb, hc, hd, Option.bind_some]
  obtain ⟨D, hD⟩ : ∃ D : Nat, d.1 = D := ⟨d.1.toNat, by omega⟩
  rw [hD]
  obtain ⟨r, hr, r1, r2⟩ := dw_trip_l0 hl D d.2.1 d.2.2 0 (wrap64 (1 + a.1)) 0 b.1 c.1 (by omega) (by omega)
  exact ⟨r, hr, by omega, by omega⟩

theorem dw_DrawIsTrip {l : List Int} (hl : Byts l) : ∃ r, Evn (fun k => spec_DrawIsTrip.f k l) r := by
  unfold spec_DrawIsTrip.f
  obtain ⟨a, ha, a2, a3⟩ := dw_trip hl (p := 0) (by decide) (by decide) 0
  exact ⟨_, Evn.bind ha (Evn.done _)⟩

theorem dw_DrawTripText {l : List Int} (hl : Byts l) : ∃ r, Evn (fun k => spec_DrawTripText.f k l) r := by
  unfold spec_DrawTripText.f
  obtain ⟨a, ha⟩ := dw_DrawIsTrip hl
  exact ⟨_, Evn.bind ha (Evn.done _)⟩

theorem extract_le (b : ByteArray) (i j : Nat) : (b.extract i j).size ≤ b.size := by rw [ByteArray.size_extract]; omega
theorem toList_pos {t : ByteArray} (h : ¬ t.toList = ([] : List UInt8)) : 0 < t.size := by
  rw [toList_data] at h
  have h1 := size_data t
  cases e : t.data.toList with
  | nil => exact absurd e h
  | cons x xs => rw [e] at h1; simp only [List.length_cons] at h1; omega
theorem dw_spoilt {l : List Int} {p : Int} (hl : Byts l) (h0 : 0 ≤ p) (h1 : p ≤ 900000000) (s : Int) (t w : ByteArray) (ht : t.size ≤ 1000) (hw : 0 < w.size) (hw2 : w.size ≤ 1000) : ∃ r, spec_l1Cur_spoilt.f l p s t w = some r ∧ r.1.size ≤ 3000 := by
  unfold spec_l1Cur_spoilt.f
  by_cases c : t.toList = ([] : List UInt8)
  · rw [if_pos c, if_pos (by omega)]
    refine ⟨_, rfl, ?_⟩
    have := extract_le w 0 1
    dsimp only
    omega
  · have hn := toList_pos c
    obtain ⟨i, hi, i0, i1, i2, i3⟩ := dw_pick hl h0 (by omega) s (t.size : Int)
    obtain ⟨j, hj, j0, j1, j2, j3⟩ := dw_pick hl (p := i.2.1) (by omega) (by omega) i.2.2 (w.size : Int)
    obtain ⟨q, hq, q0, q1, q2, q3⟩ := dw_pick hl (p := j.2.1) (by omega) (by omega) j.2.2 3
    have i4 : i.1 ≤ (t.size : Int) := by omega
    have j4 : j.1 ≤ (w.size : Int) := by omega
    have e1 : 1 ≤ ((w.extract (j.1 : Int).toNat w.size).size : Int) := by rw [ByteArray.size_extract]; omega
    have ew : wrap64 (i.1 + 1) = i.1 + 1 := wrap_id (by omega) (by omega)
    have i5 : 0 ≤ i.1 + 1 := by omega
    have i6 : i.1 + 1 ≤ (t.size : Int) := by omega
    have z1 := extract_le t 0 i.1.toNat
    have z2 := extract_le t i.1.toNat t.size
    have z3 := extract_le t (i.1 + 1).toNat t.size
    have z4 := extract_le (w.extract j.1.toNat w.size) 0 1
    have z5 := extract_le w j.1.toNat w.size
    simp only [if_neg c, hi, hj, hq, Option.bind_some, if_pos j0, if_pos j4, if_pos e1, if_pos i0, if_pos i4, ew, if_pos i5, if_pos i6]
    by_cases c1 : q.1 = 0
    · rw [if_pos c1, if_pos (by omega), if_pos (by rw [ByteArray.size_append]; omega)]
      refine ⟨_, rfl, ?_⟩
      dsimp only
      rw [ByteArray.size_append, ByteArray.size_append]
      omega
    · by_cases c2 : q.1 = 1
      · rw [if_neg c1, if_pos c2, if_pos (by omega), if_pos (by rw [ByteArray.size_append]; omega)]
        refine ⟨_, rfl, ?_⟩
        dsimp only
        rw [ByteArray.size_append, ByteArray.size_append]
        omega
      · rw [if_neg c1, if_neg c2, if_pos (by omega)]
        refine ⟨_, rfl, ?_⟩
        dsimp only
        rw [ByteArray.size_append]
        omega

theorem dw_DrawParseTrip {l : List Int} (hl : Byts l) : ∃ r, Evn (fun k => spec_DrawParseTrip.f k l) r ∧ r.size ≤ 3000 := by
  have fin : ∀ (t : ByteArray) (p s : Int), t.size ≤ 1000 → 0 ≤ p → p ≤ 900 → ∃ r, Evn (fun k => spec_DrawParseTrip.j0 k t l p s) r ∧ r.size ≤ 3000 := by
    intro t p s ht h0 h1
    obtain ⟨o, ho, o2, o3⟩ := dw_one hl h0 (by omega) s 4
    by_cases c : o.1 = true
    · obtain ⟨r, hr, h3⟩ := dw_spoilt hl (p := o.2.1) (by omega) (by omega) o.2.2 t ⟨#[49, 32, 47, 48]⟩ ht (by decide) (by decide)
      refine ⟨r.1, Evn.step ?_, h3⟩
      simp only [spec_DrawParseTrip.j0, ho, Option.bind_some, if_pos c, hr]
      exact Evn.done _
    · refine ⟨t, Evn.step ?_, by omega⟩
      simp only [spec_DrawParseTrip.j0, ho, Option.bind_some, if_neg c]
      exact Evn.done _
  unfold spec_DrawParseTrip.f
  obtain ⟨a, ha, a2, a3⟩ := dw_trip hl (p := 0) (by decide) (by decide) 0
  have ht := sp_TripText a.1 a.2.1 a.2.2.1 a.2.2.2.1 a.2.2.2.2.1
  by_cases c : (txtT a.1 a.2.1 a.2.2.1 a.2.2.2.1 a.2.2.2.2.1).2 = true
  · have hz : (txtT a.1 a.2.1 a.2.2.1 a.2.2.2.1 a.2.2.2.2.1).1.size ≤ 1000 := by
      unfold txtT
      by_cases g : goodT a.1 a.2.1 a.2.2.1 a.2.2.2.1 a.2.2.2.2.1 = true
      · rw [if_pos g]
        obtain ⟨a', b', c', d', e', x1, x2, x3, x4, x5, y1, y2, y3, y4, y5⟩ := goodT_nat g
        rw [x1, x2, x3, x4, x5]
        have := tripT_size a' b' c' d' e' y1 y2 y3 y4 y5
        dsimp only
        omega
      · rw [if_neg g]; decide
    obtain ⟨r, hr, h2⟩ := fin _ a.2.2.2.2.2.1 a.2.2.2.2.2.2 hz (by omega) (by omega)
    refine ⟨r, Evn.bind ha (Evn.bind ht ?_), h2⟩
    simp only [if_pos c]
    exact hr
  · obtain ⟨r, hr, h2⟩ := fin ⟨#[105, 110, 115, 105, 100, 101, 32, 50, 47, 52, 32, 100, 117, 101, 32, 53, 48, 32, 97, 116, 32, 49, 48]⟩ a.2.2.2.2.2.1 a.2.2.2.2.2.2 (by decide) (by omega) (by omega)
    refine ⟨r, Evn.bind ha (Evn.bind ht ?_), h2⟩
    simp only [if_neg c]
    exact hr

theorem dw_trips_l0 {l : List Int} (hl : Byts l) : ∀ (D : Nat) (zs : List S25) (p s : Int), zs.length + D ≤ 10 → 0 ≤ p → p ≤ 100000 - 100 * (D : Int) → ∃ r, Evn (fun k => spec_l1Cur_trips.l0 k zs (D : Int) l p s) r ∧ r.1.length ≤ 10 ∧ p ≤ r.2.1 ∧ r.2.1 ≤ p + 100 * (D : Int) := by
  intro D
  induction D with
  | zero =>
    intro zs p s hz h0 h1
    have hn : ¬ ((0 : Nat) : Int) > 0 := by decide
    refine ⟨(zs, p, s), Evn.step ?_, by dsimp only; omega, by dsimp only; omega, by dsimp only; omega⟩
    simp only [spec_l1Cur_trips.l0, if_neg hn]
    exact Evn.done _
  | succ D ih =>
    intro zs p s hz h0 h1
    obtain ⟨u, hu, u2, u3⟩ := dw_trip hl h0 (by omega) s
    have hp : ((D + 1 : Nat) : Int) > 0 := by omega
    have hw : wrap64 (((D + 1 : Nat) : Int) - 1) = (D : Int) := wrap_pred (by omega)
    obtain ⟨r, hr, r1, r2, r3⟩ := ih (zs ++ [⟨u.1, u.2.1, u.2.2.1, u.2.2.2.1, u.2.2.2.2.1⟩]) u.2.2.2.2.2.1 u.2.2.2.2.2.2 (by rw [List.length_append, List.length_singleton]; omega) (by omega) (by omega)
    refine ⟨r, Evn.step ?_, r1, by omega, by omega⟩
    have hq : zs.length < 3518437208883 := by omega
    simp only [spec_l1Cur_trips.l0, if_pos hp, hw]
    refine Evn.bind hu ?_
    simp only [if_pos hq]
    exact hr
theorem dw_trips {l : List Int} {p : Int} (hl : Byts l) (h0 : 0 ≤ p) (h1 : p ≤ 1000) (s : Int) : ∃ r, Evn (fun k => spec_l1Cur_trips.f k l p s) r ∧ r.1.length ≤ 10 ∧ p ≤ r.2.1 ∧ r.2.1 ≤ p + 1000 := by
  unfold spec_l1Cur_trips.f
  obtain ⟨a, ha, a0, a1, a2, a3⟩ := dw_pick hl h0 (by omega) s 5
  obtain ⟨D, hD⟩ : ∃ D : Nat, a.1 = D := ⟨a.1.toNat, by omega⟩
  simp only [ha, Option.bind_some, hD]
  obtain ⟨r, hr, r1, r2, r3⟩ := dw_trips_l0 hl D [] a.2.1 a.2.2 (by simp only [List.length_nil]; omega) (by omega) (by omega)
  exact ⟨r, hr, r1, by omega, by omega⟩

theorem dw_DrawOverdueTrips {l : List Int} (hl : Byts l) : ∃ r, Evn (fun k => spec_DrawOverdueTrips.f k l) r ∧ r.1.length ≤ 10 := by
  unfold spec_DrawOverdueTrips.f
  obtain ⟨a, ha, a1, a2, a3⟩ := dw_trips hl (p := 0) (by decide) (by decide) 0
  obtain ⟨b, hb, _⟩ := dw_among hl (p := a.2.1) (by omega) (by omega) a.2.2 [0, 5, 20, 60, 101, 999, 1000, -1] (by decide)
  refine ⟨(a.1, b.1), Evn.bind ha ?_, a1⟩
  simp only [hb, Option.bind_some]
  exact Evn.done _

theorem dw_DrawPeopleInside {l : List Int} (hl : Byts l) : ∃ r, Evn (fun k => spec_DrawPeopleInside.f k l) r ∧ r.length ≤ 10 := by
  unfold spec_DrawPeopleInside.f
  obtain ⟨a, ha, a1, _⟩ := dw_trips hl (p := 0) (by decide) (by decide) 0
  exact ⟨a.1, Evn.bind ha (Evn.done _), a1⟩

theorem im_within (x y z : Int) : impl_within.f x y z = some (decide (y ≤ x ∧ x ≤ z)) := by
  unfold impl_within.f
  by_cases h : x ≥ y <;> simp [h] <;> omega

theorem im_isTime (x : Int) : impl_isTime.f x = some (decide (0 ≤ x ∧ x ≤ 999)) := by
  simp only [impl_isTime.f, im_within, Option.bind_some]
theorem im_IsTrip_j1 (k : Nat) (p b c d e : Int) (q : Bool) (hq : q = decide (p = 0 ∨ p = 4 ∨ p = 5)) : impl_IsTrip.j1 (k + 1) p q p b c d e = some (decide (0 ≤ p ∧ p ≤ 5) && (if 1 ≤ p ∧ p ≤ 3 then decide (1 ≤ c ∧ c ≤ b) && ((p == 1) == decide (e ≤ d)) else c == 0)) := by
  subst hq
  simp only [impl_IsTrip.j1, im_within, Option.bind_some, ite_and]
  by_cases h0 : p = 0
  · subst h0; simp
  by_cases h4 : p = 4
  · subst h4; simp
  by_cases h5 : p = 5
  · subst h5; simp
  by_cases h1 : p = 1
  · subst h1; simp
  have hn : decide (d < e) = !decide (e ≤ d) := by by_cases h : e ≤ d <;> simp [h] <;> omega
  by_cases h2 : p = 2
  · subst h2; simp [hn]
  by_cases h3 : p = 3
  · subst h3; simp [hn]
  have : ¬ (0 ≤ p ∧ p ≤ 5) := by omega
  simp [h0, h1, h2, h3, h4, h5, this]
theorem im_IsTrip (a b c d e : Int) : Evn (fun k => impl_IsTrip.f k a b c d e) (goodT a b c d e) := by
  refine Evn.step (Evn.step ?_)
  refine Evn.of fun k => ?_
  unfold goodT
  simp only [impl_IsTrip.f, impl_IsTrip.j0, im_isTime, im_within, Option.bind_some]
  have e0 : impl_IsTrip.j1 (k + 1) a (a == 0) a b c d e = impl_IsTrip.j1 (k + 1) a (a == 0) a b c d e := rfl
  by_cases h2 : 1 ≤ b ∧ b ≤ 12
  · by_cases h3 : 0 ≤ d ∧ d ≤ 999
    · by_cases h4 : 0 ≤ e ∧ e ≤ 999
      · by_cases g0 : a = 0
        · rw [if_pos (decide_eq_true h2), if_pos (decide_eq_true h3), decide_eq_true h4, if_neg (by decide), if_pos g0, im_IsTrip_j1 k a b c d e _ (by simp [g0])]
          simp [h2, h3]
        · by_cases g4 : a = 4
          · rw [if_pos (decide_eq_true h2), if_pos (decide_eq_true h3), decide_eq_true h4, if_neg (by decide), if_neg g0, if_pos g4, im_IsTrip_j1 k a b c d e _ (by simp [g4])]
            simp [h2, h3]
          · rw [if_pos (decide_eq_true h2), if_pos (decide_eq_true h3), decide_eq_true h4, if_neg (by decide), if_neg g0, if_neg g4, im_IsTrip_j1 k a b c d e _ (by by_cases g5 : a = 5 <;> simp [g0, g4, g5])]
            simp [h2, h3]
      · simp [h2, h3, h4]
    · simp [h2, h3]
  · simp [h2]

theorem im_decimal (n : Nat) (h : n < 1000000) : impl_decimal.f (n : Int) = some (numT n) := by
  unfold impl_decimal.f
  rw [if_pos ⟨by omega, by omega⟩]
  rfl

theorem im_tripText (a : Int) (b c d e : Nat) (hb : b < 1000) (hc : c < 1000) (hd : d < 1000) (he : e < 1000) (h0 : 0 ≤ a) (h4 : a < 6) : impl_tripText.f a b c d e = some (tripT a b c d e) := by
  have zb := numT_size 2 b hb
  have zc := numT_size 2 c hc
  have zd := numT_size 2 d hd
  have ze := numT_size 2 e he
  have za := stW_size6 a h0 h4
  unfold impl_tripText.f tripT
  rw [if_pos ⟨h0, h4⟩]
  simp only [im_decimal b (by omega), im_decimal c (by omega), im_decimal d (by omega), im_decimal e (by omega), Option.bind_some]
  repeat rw [if_pos (by first | omega | (simp only [ByteArray.size_append, sz1, sz4, sz5]; omega))]

theorem im_TripText (a b c d e : Int) : Evn (fun k => impl_TripText.f k a b c d e) (txtT a b c d e) := by
  unfold impl_TripText.f txtT
  refine Evn.bind (im_IsTrip a b c d e) ?_
  by_cases h : goodT a b c d e = true
  · have hb := good_rng h
    obtain ⟨b, rfl⟩ : ∃ n : Nat, b = n := ⟨b.toNat, by omega⟩
    obtain ⟨c, rfl⟩ : ∃ n : Nat, c = n := ⟨c.toNat, by omega⟩
    obtain ⟨d, rfl⟩ : ∃ n : Nat, d = n := ⟨d.toNat, by omega⟩
    obtain ⟨e, rfl⟩ : ∃ n : Nat, e = n := ⟨e.toNat, by omega⟩
    simp only [if_pos h, im_tripText a b c d e (by omega) (by omega) (by omega) (by omega) (by omega) (by omega), Option.bind_some]
    exact Evn.done _
  · simp only [if_neg h]
    exact Evn.done _

theorem im_Split (c : UInt8) (s : ByteArray) (h : s.size < 4294967281) : strings_Split.f s ⟨#[c]⟩ = some (wordsB c s) := by
  unfold strings_Split.f
  rw [if_pos ⟨h, Nat.le_refl 1⟩, splitB_words]

def cutB (c : UInt8) (s : ByteArray) : ByteArray × ByteArray × Bool := ((⟨(Lib.cut s.data.toList [c]).1.toArray⟩ : ByteArray), (⟨(Lib.cut s.data.toList [c]).2.1.toArray⟩ : ByteArray), (Lib.cut s.data.toList [c]).2.2)
theorem im_Cut (c : UInt8) (s : ByteArray) (h : s.size < 4294967281) : strings_Cut.f s ⟨#[c]⟩ = some (cutB c s) := by
  unfold strings_Cut.f
  rw [if_pos h]
  rfl
theorem cutB_size (c : UInt8) (s : ByteArray) : (cutB c s).1.size ≤ s.size ∧ (cutB c s).2.1.size ≤ s.size := by
  have h1 : (cutB c s).1.size = (Lib.cut s.data.toList [c]).1.length := by simp [cutB, ByteArray.size]
  have h2 : (cutB c s).2.1.size = (Lib.cut s.data.toList [c]).2.1.length := by simp [cutB, ByteArray.size]
  rw [h1, h2, ← size_data]
  unfold Lib.cut
  split
  · simp only [List.length_take, List.length_drop]
    omega
  · simp
theorem cutB_app (c : UInt8) (w r : ByteArray) (h : c ∉ w.data.toList) : cutB c (w ++ ((⟨#[c]⟩ : ByteArray) ++ r)) = (w, r, true) := by
  have e : (w ++ ((⟨#[c]⟩ : ByteArray) ++ r)).data.toList = w.data.toList ++ c :: r.data.toList := by simp
  have hi : Lib.index (w.data.toList ++ c :: r.data.toList) [c] = ((w.data.toList.length : Nat) : Int) := (Lib.index_one _ _).trans (indexByte_app c _ _ h)
  unfold cutB
  rw [e]
  unfold Lib.cut
  rw [hi, if_pos (by omega), Int.toNat_natCast]
  have h1 : (w.data.toList ++ c :: r.data.toList).take w.data.toList.length = w.data.toList := List.take_left
  have h2 : (w.data.toList ++ c :: r.data.toList).drop (w.data.toList.length + [c].length) = r.data.toList := by
    rw [show w.data.toList ++ c :: r.data.toList = (w.data.toList ++ [c]) ++ r.data.toList by simp, ← List.length_append, List.drop_left]
  rw [h1, h2]

theorem parse_dec : ∀ (l : List UInt8) (acc : Nat), digL l → decV acc l < 1844674407370955161 → Lib.parseUint10 acc l = .ok (decV acc l)
  | [], _, _, _ => rfl
  | b :: l, acc, hd, hv => by
    have hb := hd b List.mem_cons_self
    have hge := decV_ge l (10 * acc + (b.toNat - 48))
    have hv2 : decV (10 * acc + (b.toNat - 48)) l < 1844674407370955161 := hv
    have e : acc * 10 + (b.toNat - 48) = 10 * acc + (b.toNat - 48) := by omega
    unfold Lib.parseUint10
    rw [if_pos hb, if_neg (by omega), if_neg (by omega), e]
    exact parse_dec l _ (fun c hc => hd c (List.mem_cons_of_mem _ hc)) hv2
theorem atoiAll_num (n : Nat) (hn : n < 1000000) : Lib.atoiAll (numT n).data.toList = .ok (n : Int) := by
  obtain ⟨g1, g2, g3⟩ := numT_digits n
  rw [← size_data] at g3
  generalize hl : (numT n).data.toList = l at g1 g2 g3
  cases l with
  | nil => simp at g3
  | cons b l =>
    have hb := g1 b List.mem_cons_self
    have hp : Lib.parseUint10 0 (b :: l) = .ok n := by
      rw [parse_dec (b :: l) 0 g1 (by omega), g2]
    unfold Lib.atoiAll
    have h4 : ¬ b.toNat = 43 := by omega
    have h2 : ¬ b.toNat = 45 := by omega
    have h3 : ¬ 9223372036854775808 ≤ n := by omega
    have h5 : ¬ ((b :: l : List UInt8) = []) := List.cons_ne_nil _ _
    simp only [h4, h2, or_self, if_false, Lib.parseMag, if_neg h5, hp, not_false_eq_true, true_and, false_and, if_neg h3]
theorem parI_num (n : Nat) (hn : n < 1000000) : parI (numT n) = ((n : Int), true) := by
  unfold parI
  rw [atoiAll_num n hn]
  have h : (⟨(Lib.itoa (n : Int)).toArray⟩ : ByteArray).toList = (numT n).toList := rfl
  have h2 : -999999 ≤ (n : Int) ∧ (n : Int) ≤ 999999 := by omega
  simp only [if_pos h, if_pos h2]
theorem numT_inj {m n : Nat} (hm : m < 1000000) (hn : n < 1000000) (h : numT m = numT n) : m = n := by
  have h1 := parI_num m hm
  rw [h, parI_num n hn] at h1
  have := (Prod.mk.inj h1).1
  omega

def pInts (l : List ByteArray) : List Int × Bool := if (l.all fun w => (parI w).2) = true then (l.map fun w => (parI w).1, true) else ([], false)
theorem im_parseInts_l0 (l : List ByteArray) (hs : ∀ w ∈ l, w.size ≤ 281474976710656) (hl : l.length ≤ 1000) : ∀ (n i : Nat) (acc : List Int), i + n = l.length → acc.length = i →
    Evn (fun k => impl_parseInts.l0 k acc l (l.length : Int) (i : Int)) (if ((l.drop i).all fun w => (parI w).2) = true then (acc ++ (l.drop i).map fun w => (parI w).1, true) else ([], false)) := by
  intro n
  induction n with
  | zero =>
    intro i acc hi ha
    refine Evn.step ?_
    have h1 : ¬ (i : Int) < (l.length : Int) := by omega
    simp only [impl_parseInts.l0, if_neg h1]
    rw [List.drop_eq_nil_of_le (by omega)]
    simp only [List.all_nil, if_true, List.map_nil, List.append_nil]
    exact Evn.done _
  | succ n ih =>
    intro i acc hi ha
    refine Evn.step ?_
    have h1 : (i : Int) < (l.length : Int) := by omega
    have h2 : 0 ≤ (i : Int) := by omega
    have h3 : acc.length < 17592186044416 := by omega
    have hd := getD_drop l i ByteArray.empty (by omega)
    have hm : l.getD i ByteArray.empty ∈ l := by
      rw [List.getD, List.getElem?_eq_getElem (show i < l.length by omega), Option.getD_some]
      exact List.getElem_mem _
    have hp : impl_ParseInt.f (l.getD i ByteArray.empty) = some (parI (l.getD i ByteArray.empty)) := by
      unfold impl_ParseInt.f
      rw [if_pos (hs _ hm)]
    simp only [impl_parseInts.l0, if_pos h1, if_pos h2, rdOf, Int.toNat_natCast, hp, Option.bind_some, if_pos h3, wrap_succ (show i < 4611686018427387904 by omega)]
    refine Evn.ite (fun hc => ?_) (fun hc => ?_)
    · refine (ih (i + 1) _ (by omega) (by rw [List.length_append, ha]; rfl)).eq_ ?_
      rw [hd, List.all_cons, hc, Bool.true_and, List.map_cons]
      simp
    · refine (Evn.done _).eq_ ?_
      rw [hd, List.all_cons, Bool.eq_false_iff.2 hc, Bool.false_and]
      simp
theorem im_parseInts (l : List ByteArray) (hs : ∀ w ∈ l, w.size ≤ 281474976710656) (hl : l.length ≤ 1000) : Evn (fun k => impl_parseInts.f k l) (pInts l) := by
  refine (im_parseInts_l0 l hs hl l.length 0 [] (by omega) rfl).eq_ ?_
  simp only [List.drop_zero, List.nil_append]
  rfl

def ixW (ws : List ByteArray) (x : ByteArray) : Nat → Nat → Int
  | 0, _ => -1
  | d + 1, i => if x.toList = (ws.getD i ByteArray.empty).toList then (i : Int) else ixW ws x d (i + 1)
theorem li_IndexS_l0 (ws : List ByteArray) (x : ByteArray) (hx : ws.length ≤ 4194304) : ∀ (d i k : Nat), i + d = ws.length → d < k → slices_Index_string_string.l0 k ws x (ws.length : Int) (i : Int) = some (ixW ws x d i) := by
  intro d
  induction d with
  | zero =>
    intro i k h hk
    obtain ⟨k, rfl⟩ : ∃ m, k = m + 1 := ⟨k - 1, by omega⟩
    have h1 : ¬ (i : Int) < (ws.length : Int) := by omega
    simp only [slices_Index_string_string.l0, if_neg h1, ixW]
  | succ d ih =>
    intro i k h hk
    obtain ⟨k, rfl⟩ : ∃ m, k = m + 1 := ⟨k - 1, by omega⟩
    have h1 : (i : Int) < (ws.length : Int) := by omega
    have h2 : 0 ≤ (i : Int) := by omega
    simp only [slices_Index_string_string.l0, if_pos h1, if_pos h2, rdOf, Int.toNat_natCast, wrap_succ (show i < 4611686018427387904 by omega), ixW, ih (i + 1) k (by omega) (by omega)]
    split <;> rfl
theorem im_xState (x : ByteArray) : impl_xState.f x = some (ixW stWords x stWords.length 0) :=
  li_IndexS_l0 stWords x (by decide) stWords.length 0 20 (by omega) (by decide)

theorem im_ParseTrip_j0t (s : ByteArray) (ws : List ByteArray) (t : Int) : Evn (fun k => impl_ParseTrip.j0 k s ws t true) (0, 0, 0, 0, 0, false) := by
  refine Evn.step ?_
  simp only [impl_ParseTrip.j0, if_true]
  exact Evn.done _
theorem ixW_at (x : ByteArray) (j : Nat) : ∀ (d i : Nat), (∀ m : Nat, i ≤ m → m < j → ¬ x.toList = (stWords.getD m ByteArray.empty).toList) → x.toList = (stWords.getD j ByteArray.empty).toList → i ≤ j → j < i + d → ixW stWords x d i = (j : Int) := by
  intro d
  induction d with
  | zero => intro i _ _ h1 h2; omega
  | succ d ih =>
    intro i h hj h1 h2
    unfold ixW
    by_cases e : i = j
    · subst e
      rw [if_pos hj]
    · rw [if_neg (h i (Nat.le_refl _) (by omega))]
      exact ih (i + 1) (fun m hm => h m (by omega)) hj (by omega) (by omega)
theorem ixW_stW (e : Nat) (h : e ≤ 5) : ixW stWords (stW e) stWords.length 0 = (e : Int) := by
  have hl : stWords.length = 6 := rfl
  have hs : ∀ i : Nat, (stW (i : Int)).toList = (stWords.getD i ByteArray.empty).toList := fun i => by unfold stW; rw [Int.toNat_natCast]
  rw [hl]
  refine ixW_at _ e 6 0 (fun m _ hm hc => ?_) (hs e) (by omega) (by omega)
  rw [← hs m] at hc
  have := stW_inj (e := e) (e' := m) (by omega) (by omega) (byteL_eq hc)
  omega
theorem im_ParseTrip (s : ByteArray) (hs : s.size ≤ 1048576) : ∃ r, Evn (fun k => impl_ParseTrip.f k s) r ∧ tripRead s r := by
  have hsp := im_Split 32 s (by omega)
  have key := trip_key s
  have hz := wordsB_size 32 s
  have w0 : 0 < ((wordsB 32 s).length : Int) := by have := wordsB_pos 32 s; omega
  generalize wordsB 32 s = ws at hsp key hz w0
  unfold impl_ParseTrip.f
  simp only [hsp, Option.bind_some, if_pos w0, im_xState]
  by_cases h2 : (ws.length : Int) = 6
  · simp only [if_pos h2]
    have w1 : 1 < (ws.length : Int) := by omega
    have w3 : 3 < (ws.length : Int) := by omega
    have w5 : 5 < (ws.length : Int) := by omega
    have z1 := hz _ (rdOf_mem ws 1 (by omega))
    have z3 := hz _ (rdOf_mem ws 3 (by omega))
    have z5 := hz _ (rdOf_mem ws 5 (by omega))
    have hcut := im_Cut 47 (rdOf ByteArray.empty ws 1) (Nat.lt_of_le_of_lt z1 (by omega))
    have zc := cutB_size 47 (rdOf ByteArray.empty ws 1)
    have pkey : ∀ a b c d e : Nat, goodT a b c d e = true → s = tripT a b c d e → pInts [(cutB 47 (rdOf ByteArray.empty ws 1)).1, (cutB 47 (rdOf ByteArray.empty ws 1)).2.1, rdOf ByteArray.empty ws 3, rdOf ByteArray.empty ws 5] = ([(c : Int), (b : Int), (d : Int), (e : Int)], true) ∧ ixW stWords (rdOf ByteArray.empty ws 0) stWords.length 0 = (a : Int) := by
      intro a b c d e g1 g2
      obtain ⟨_, _, _, _, _, _, _, _, _, _, h6⟩ := goodT_nat g1
      rw [(key a b c d e g1 g2).1]
      have e1 : cutB 47 (rdOf ByteArray.empty (tripW a b c d e) 1) = (numT c, numT b, true) := cutB_app 47 (numT c) (numT b) (numT_no 47 (by decide) c)
      have e3 : rdOf ByteArray.empty (tripW a b c d e) 3 = numT d := rfl
      have e5 : rdOf ByteArray.empty (tripW a b c d e) 5 = numT e := rfl
      have e0 : rdOf ByteArray.empty (tripW a b c d e) 0 = stW a := rfl
      rw [e1, e3, e5, e0]
      refine ⟨?_, ixW_stW a (by omega)⟩
      unfold pInts
      simp only [List.all_cons, List.all_nil, List.map_cons, List.map_nil, parI_num c (by omega), parI_num b (by omega), parI_num d (by omega), parI_num e (by omega), Bool.and_self, if_true]
    have hp := im_parseInts [(cutB 47 (rdOf ByteArray.empty ws 1)).1, (cutB 47 (rdOf ByteArray.empty ws 1)).2.1, rdOf ByteArray.empty ws 3, rdOf ByteArray.empty ws 5] (by
      intro w hw
      simp only [List.mem_cons, List.not_mem_nil, or_false] at hw
      rcases hw with rfl | rfl | rfl | rfl
      · exact Nat.le_trans zc.1 (Nat.le_trans z1 (by omega))
      · exact Nat.le_trans zc.2 (Nat.le_trans z1 (by omega))
      · exact Nat.le_trans z3 (by omega)
      · exact Nat.le_trans z5 (by omega)) (by simp)
    by_cases hn : ixW stWords (rdOf ByteArray.empty ws 0) stWords.length 0 < 0
    · refine ⟨(0, 0, 0, 0, 0, false), ?_, tripRead_zero s fun a b c d e g1 g2 => by have := (pkey a b c d e g1 g2).2; omega⟩
      simp only [decide_eq_true hn]
      exact im_ParseTrip_j0t _ _ _
    · simp only [decide_eq_false hn]
      by_cases hall : (pInts [(cutB 47 (rdOf ByteArray.empty ws 1)).1, (cutB 47 (rdOf ByteArray.empty ws 1)).2.1, rdOf ByteArray.empty ws 3, rdOf ByteArray.empty ws 5]).2 = true
      · obtain ⟨x0, x1, x2, x3, hx⟩ : ∃ x0 x1 x2 x3 : Int, pInts [(cutB 47 (rdOf ByteArray.empty ws 1)).1, (cutB 47 (rdOf ByteArray.empty ws 1)).2.1, rdOf ByteArray.empty ws 3, rdOf ByteArray.empty ws 5] = ([x0, x1, x2, x3], true) := by
          unfold pInts at hall ⊢
          split
          · exact ⟨_, _, _, _, rfl⟩
          · rename_i hn
            rw [if_neg hn] at hall
            cases hall
        rw [hx] at hp pkey
        generalize hst : ixW stWords (rdOf ByteArray.empty ws 0) stWords.length 0 = t at hn pkey
        have l4 : (([x0, x1, x2, x3] : List Int).length : Int) = 4 := rfl
        have e0 : rd [x0, x1, x2, x3] 0 = x0 := rfl
        have e1 : rd [x0, x1, x2, x3] 1 = x1 := rfl
        have e2 : rd [x0, x1, x2, x3] 2 = x2 := rfl
        have e3 : rd [x0, x1, x2, x3] 3 = x3 := rfl
        have c0 : (0 : Int) < 4 := by decide
        have c1 : (1 : Int) < 4 := by decide
        have c2 : (2 : Int) < 4 := by decide
        have c3 : (3 : Int) < 4 := by decide
        have hg := im_IsTrip t x1 x0 x2 x3
        have inj : ∀ a b c d e : Nat, goodT a b c d e = true → s = tripT a b c d e → t = a ∧ x1 = b ∧ x0 = c ∧ x2 = d ∧ x3 = e := by
          intro a b c d e g1 g2
          obtain ⟨p1, p2⟩ := pkey a b c d e g1 g2
          have p3 := (Prod.mk.inj p1).1
          simp only [List.cons.injEq, and_true] at p3
          exact ⟨p2, p3.2.1, p3.1, p3.2.2.1, p3.2.2.2⟩
        by_cases hok : goodT t x1 x0 x2 x3 = true
        · rw [hok] at hg
          obtain ⟨a, b, c, d, e, rfl, rfl, rfl, rfl, rfl, hb⟩ := goodT_nat hok
          have ht := im_tripText a b c d e (by omega) (by omega) (by omega) (by omega) (by omega) (by omega)
          by_cases hs : (tripT a b c d e).toList = s.toList
          · refine ⟨((a : Int), (b : Int), (c : Int), (d : Int), (e : Int), true), Evn.step ?_, .inr ⟨a, b, c, d, e, hok, (byteL_eq hs).symm, rfl⟩, ?_⟩
            · simp only [impl_ParseTrip.j0, Bool.false_eq_true, if_false, if_pos w1, hcut, Option.bind_some, if_pos w3, if_pos w5]
              refine Evn.bind hp ?_
              simp only [if_true, l4, if_pos c0, if_pos c1, if_pos c2, if_pos c3, e0, e1, e2, e3]
              refine Evn.bind hg ?_
              simp only [if_true, ht, Option.bind_some, if_pos hs]
              exact Evn.done _
            · intro a' b' c' d' e' g1 g2
              obtain ⟨i1, i2, i3, i4, i5⟩ := inj a' b' c' d' e' g1 g2
              rw [i1, i2, i3, i4, i5]
          · refine ⟨(0, 0, 0, 0, 0, false), Evn.step ?_, tripRead_zero s fun a' b' c' d' e' g1 g2 => ?_⟩
            · simp only [impl_ParseTrip.j0, Bool.false_eq_true, if_false, if_pos w1, hcut, Option.bind_some, if_pos w3, if_pos w5]
              refine Evn.bind hp ?_
              simp only [if_true, l4, if_pos c0, if_pos c1, if_pos c2, if_pos c3, e0, e1, e2, e3]
              refine Evn.bind hg ?_
              simp only [if_true, ht, Option.bind_some, if_neg hs]
              exact Evn.done _
            · obtain ⟨i1, i2, i3, i4, i5⟩ := inj a' b' c' d' e' g1 g2
              rw [i1, i2, i3, i4, i5, ← g2] at hs
              exact hs rfl
        · rw [Bool.not_eq_true] at hok
          rw [hok] at hg
          refine ⟨(0, 0, 0, 0, 0, false), Evn.step ?_, tripRead_zero s fun a' b' c' d' e' g1 g2 => ?_⟩
          · simp only [impl_ParseTrip.j0, Bool.false_eq_true, if_false, if_pos w1, hcut, Option.bind_some, if_pos w3, if_pos w5]
            refine Evn.bind hp ?_
            simp only [if_true, l4, if_pos c0, if_pos c1, if_pos c2, if_pos c3, e0, e1, e2, e3]
            refine Evn.bind hg ?_
            simp only [Bool.false_eq_true, if_false]
            exact Evn.done _
          · obtain ⟨i1, i2, i3, i4, i5⟩ := inj a' b' c' d' e' g1 g2
            rw [i1, i2, i3, i4, i5, g1] at hok
            cases hok
      · refine ⟨(0, 0, 0, 0, 0, false), Evn.step ?_, tripRead_zero s fun a b c d e g1 g2 => by rw [(pkey a b c d e g1 g2).1] at hall; exact hall rfl⟩
        simp only [impl_ParseTrip.j0, Bool.false_eq_true, if_false, if_pos w1, hcut, Option.bind_some, if_pos w3, if_pos w5]
        refine Evn.bind hp ?_
        simp only [if_neg hall]
        exact Evn.done _
  · simp only [if_neg h2]
    exact ⟨(0, 0, 0, 0, 0, false), im_ParseTrip_j0t _ _ _, tripRead_zero s fun a b c d e g1 g2 => by rw [(key a b c d e g1 g2).1] at h2; exact h2 rfl⟩

theorem im_areTrips (xs : List S25) : Evn (fun k => impl_areTrips.f k xs) (xs.all okT) := by
  have key : ∃ K, ∀ k, K ≤ k → ∀ x ∈ xs, impl_IsTrip.f k x.f0 x.f1 x.f2 x.f3 x.f4 = some (okT x) := by
    induction xs with
    | nil => exact ⟨0, fun k _ x hx => by cases hx⟩
    | cons y ys ih =>
      obtain ⟨K, hK⟩ := ih
      obtain ⟨K', hK'⟩ := im_IsTrip y.f0 y.f1 y.f2 y.f3 y.f4
      refine ⟨max K K', fun k hk x hx => ?_⟩
      rcases List.mem_cons.1 hx with h | h
      · subst h; exact hK' k (by omega)
      · exact hK k (by omega) x h
  obtain ⟨K, hK⟩ := key
  refine ⟨K, fun k hk => ?_⟩
  have h := hK k hk
  unfold impl_areTrips.f
  dsimp only
  rw [if_pos (List.all_eq_true.2 fun x hx => by rw [h x hx]; rfl)]
  congr 1
  rw [Bool.eq_iff_iff, Bool.not_eq_true', Bool.eq_false_iff, Ne, List.any_eq_true, List.all_eq_true]
  constructor
  · intro hn x hx
    cases hc : okT x with
    | true => rfl
    | false => exact absurd ⟨x, hx, by rw [h x hx, hc]; rfl⟩ hn
  · rintro ha ⟨x, hx, hq⟩
    rw [h x hx, ha x hx] at hq
    cases hq

theorem im_OverdueTrips_l0 (xs : List S25) (t : Int) (hx : xs.length ≤ 4194304) : ∀ (d i : Nat) (zs : List Int), i + d = xs.length → zs.length ≤ i → Evn (fun k => impl_OverdueTrips.l0 k t zs xs (xs.length : Int) (i : Int)) (zs ++ lateFrom xs t d i, true) := by
  intro d
  induction d with
  | zero =>
    intro i zs h hz
    refine Evn.step ?_
    have h1 : ¬ (i : Int) < (xs.length : Int) := by omega
    simp only [impl_OverdueTrips.l0, if_neg h1, lateFrom, List.append_nil]
    exact Evn.done _
  | succ d ih =>
    intro i zs h hz
    have h1 : (i : Int) < (xs.length : Int) := by omega
    have h2 : 0 ≤ (i : Int) := by omega
    have hw := wrap_succ (show i < 4611686018427387904 by omega)
    have no : lateT t (xs.getD i z25) = false → Evn (fun k => impl_OverdueTrips.l0 k t zs xs (xs.length : Int) ((i + 1 : Nat) : Int)) (zs ++ lateFrom xs t (d + 1) i, true) := by
      intro hc
      simp only [lateFrom, hc, Bool.false_eq_true, if_false]
      exact ih (i + 1) zs (by clear hw; omega) (by clear hw; omega)
    have yes : lateT t (xs.getD i z25) = true → Evn (fun k => if zs.length < 17592186044416 then impl_OverdueTrips.l0 k t (zs ++ [(i : Int)]) xs (xs.length : Int) ((i + 1 : Nat) : Int) else none) (zs ++ lateFrom xs t (d + 1) i, true) := by
      intro hc
      simp only [lateFrom, hc, if_true]
      refine Evn.ite (fun _ => ?_) (fun c => absurd (by clear hw; omega) c)
      have h3 := ih (i + 1) (zs ++ [(i : Int)]) (by clear hw; omega) (by rw [List.length_append, List.length_singleton]; clear hw; omega)
      rw [List.append_assoc] at h3
      exact h3
    refine Evn.step ?_
    simp only [impl_OverdueTrips.l0, if_pos h1, if_pos h2, hw, rd_T25, Int.toNat_natCast]
    refine Evn.ite (fun c => yes (by simp only [lateT, decide_eq_true c, Bool.true_or])) (fun c => ?_)
    refine Evn.ite (fun c2 => yes (by simp only [lateT, decide_eq_true c2, Bool.true_or, Bool.or_true])) (fun c2 => ?_)
    refine Evn.ite (fun c3 => ?_) (fun c3 => no (by simp only [lateT, decide_eq_false c, decide_eq_false c2, decide_eq_false c3, Bool.false_and, Bool.or_false]))
    exact Evn.ite (fun c4 => yes (by simp only [lateT, decide_eq_true c3, decide_eq_true c4, Bool.and_true, Bool.or_true])) (fun c4 => no (by simp only [lateT, decide_eq_false c, decide_eq_false c2, decide_eq_false c4, Bool.and_false, Bool.or_false]))
theorem im_OverdueTrips (xs : List S25) (t : Int) (hx : xs.length ≤ 4194304) : Evn (fun k => impl_OverdueTrips.f k xs t) (lateTs xs t) := by
  unfold impl_OverdueTrips.f lateTs
  refine Evn.bind (im_areTrips xs) ?_
  refine Evn.ite (fun c => ?_) (fun c => ?_)
  · simp only [im_isTime, Option.bind_some]
    refine Evn.step ?_
    simp only [impl_OverdueTrips.j0]
    refine Evn.ite (fun c1 => ?_) (fun c1 => ?_)
    · rw [if_neg (by intro h; have h2 := decide_eq_true h.2; rw [h2] at c1; cases c1)]
      exact Evn.done _
    · rw [if_pos ⟨c, by simpa using c1⟩]
      have h := im_OverdueTrips_l0 xs t hx xs.length 0 [] (by omega) (by simp)
      simpa using h
  · refine Evn.step ?_
    simp only [impl_OverdueTrips.j0, if_true]
    rw [if_neg (fun h => c h.1)]
    exact Evn.done _

theorem ev_vInts_l0 (xs ys : List Int) (e : xs = ys) : ∀ (D i : Nat), i + D = xs.length → xs.length ≤ 4611686018427387904 → Evn (fun k => laws_vInts.l0 k xs ys (i : Int)) true := by
  subst e
  intro D
  induction D with
  | zero =>
    intro i h hx
    refine Evn.step ?_
    have h1 : ¬ (i : Int) < (xs.length : Int) := by omega
    simp only [laws_vInts.l0, if_neg h1]
    exact Evn.done _
  | succ D ih =>
    intro i h hx
    refine Evn.step ?_
    have h1 : (i : Int) < (xs.length : Int) := by omega
    have h2 : 0 ≤ (i : Int) := by omega
    simp only [laws_vInts.l0, if_pos h1, if_pos h2, if_true, wrap_succ (show i < 4611686018427387904 by omega)]
    exact ih (i + 1) (by omega) hx
theorem ev_vInts (xs : List Int) (hx : xs.length ≤ 4611686018427387904) : Evn (fun k => laws_vInts.f k xs xs) true := by
  unfold laws_vInts.f
  simp only [if_true]
  exact ev_vInts_l0 xs xs rfl xs.length 0 (by omega) hx

theorem ev_vHas_l0 (xs : List Int) (x : Int) : ∀ (D i : Nat), i + D = xs.length → xs.length ≤ 4611686018427387904 → Evn (fun k => laws_vHas.l0 k xs x (i : Int)) ((xs.drop i).contains x) := by
  intro D
  induction D with
  | zero =>
    intro i h hx
    refine Evn.step ?_
    have h1 : ¬ (i : Int) < (xs.length : Int) := by omega
    simp only [laws_vHas.l0, if_neg h1]
    rw [List.drop_eq_nil_of_le (by omega)]
    exact Evn.done _
  | succ D ih =>
    intro i h hx
    refine Evn.step ?_
    have h1 : (i : Int) < (xs.length : Int) := by omega
    have h2 : 0 ≤ (i : Int) := by omega
    simp only [laws_vHas.l0, if_pos h1, if_pos h2, wrap_succ (show i < 4611686018427387904 by omega)]
    have e : rd xs (i : Int) = xs.getD i 0 := rfl
    rw [getD_drop xs i 0 (by omega), e, List.contains_cons]
    refine Evn.ite (fun c => ?_) (fun c => ?_)
    · rw [c, beq_self_eq_true, Bool.true_or]; exact Evn.done _
    · rw [beq_eq_false_iff_ne.mpr (Ne.symm c), Bool.false_or]; exact ih (i + 1) (by omega) hx
theorem ev_vHas (xs : List Int) (x : Int) (hx : xs.length ≤ 4611686018427387904) : Evn (fun k => laws_vHas.f k xs x) (xs.contains x) := by
  have h := ev_vHas_l0 xs x xs.length 0 (by omega) hx
  rw [List.drop_zero] at h
  exact h

theorem ev_vWithin_l0 (xs ys : List Int) (hy : ys.length ≤ 4611686018427387904) (h : ∀ x ∈ xs, ys.contains x = true) : ∀ (D i : Nat), i + D = xs.length → xs.length ≤ 4611686018427387904 → Evn (fun k => laws_vWithin.l0 k xs ys (i : Int)) true := by
  intro D
  induction D with
  | zero =>
    intro i h hx
    refine Evn.step ?_
    have h1 : ¬ (i : Int) < (xs.length : Int) := by omega
    simp only [laws_vWithin.l0, if_neg h1]
    exact Evn.done _
  | succ D ih =>
    intro i hi hx
    refine Evn.step ?_
    have h1 : (i : Int) < (xs.length : Int) := by omega
    have h2 : 0 ≤ (i : Int) := by omega
    simp only [laws_vWithin.l0, if_pos h1, if_pos h2, wrap_succ (show i < 4611686018427387904 by omega)]
    have hm : ys.contains (rd xs (i : Int)) = true := h _ (by
      have e : rd xs (i : Int) = xs.getD i 0 := rfl
      rw [e, List.getD_eq_getElem?_getD, List.getElem?_eq_getElem (by omega), Option.getD_some]
      exact List.getElem_mem _)
    refine Evn.bind (ev_vHas _ _ hy) ?_
    simp only [hm, if_true]
    exact ih (i + 1) (by omega) hx
theorem ev_vWithin (xs ys : List Int) (hx : xs.length ≤ 4611686018427387904) (hy : ys.length ≤ 4611686018427387904) (h : ∀ x ∈ xs, ys.contains x = true) : Evn (fun k => laws_vWithin.f k xs ys) true := ev_vWithin_l0 xs ys hy h xs.length 0 (by omega) hx

theorem im_PeopleInside_l0 (xs : List S25) (hx : xs.length ≤ 4194304) : ∀ (d i : Nat) (s : Int), i + d = xs.length → Evn (fun k => impl_PeopleInside.l0 k s xs (xs.length : Int) (i : Int)) (sumT xs d i s, true) := by
  intro d
  induction d with
  | zero =>
    intro i s h
    refine Evn.step ?_
    have h1 : ¬ (i : Int) < (xs.length : Int) := by omega
    simp only [impl_PeopleInside.l0, if_neg h1, sumT]
    exact Evn.done _
  | succ d ih =>
    intro i s h
    refine Evn.step ?_
    have h1 : (i : Int) < (xs.length : Int) := by omega
    have h2 : 0 ≤ (i : Int) := by omega
    simp only [impl_PeopleInside.l0, if_pos h1, if_pos h2, wrap_succ (show i < 4611686018427387904 by omega), rd_T25, Int.toNat_natCast, sumT]
    exact ih (i + 1) _ (by omega)
theorem im_PeopleInside (xs : List S25) (hx : xs.length ≤ 4194304) : Evn (fun k => impl_PeopleInside.f k xs) (insideT xs) := by
  unfold impl_PeopleInside.f insideT
  refine Evn.bind (im_areTrips xs) ?_
  refine Evn.ite (fun c => ?_) (fun c => ?_)
  · rw [if_pos c]
    exact im_PeopleInside_l0 xs hx xs.length 0 0 (by omega)
  · rw [if_neg c]
    exact Evn.done _

theorem byts_of {l : List Int} (h : ∀ x ∈ l, (Lit.int .u8 x).wf = true) : Byts l := by
  intro x hx
  have h1 := h x hx
  simp [Lit.wf, IntKind.min, IntKind.max, IntKind.signed, IntKind.bits] at h1
  omega

theorem late_sub (xs : List S25) (t : Int) : ∀ (d i : Nat), ∀ y ∈ lateFrom xs t d i, (lateFrom xs (t + 1) d i).contains y = true := by
  intro d
  induction d with
  | zero => intro i y hy; cases hy
  | succ d ih =>
    intro i y hy
    unfold lateFrom at hy ⊢
    by_cases c : lateT t (xs.getD i z25) = true
    · have c' : lateT (t + 1) (xs.getD i z25) = true := by
        unfold lateT at c ⊢
        simp only [Bool.or_eq_true, Bool.and_eq_true, decide_eq_true_eq] at c ⊢
        omega
      rw [if_pos c] at hy
      rw [if_pos c']
      rcases List.mem_cons.1 hy with e | hy
      · rw [e, List.contains_cons, beq_self_eq_true, Bool.true_or]
      · rw [List.contains_cons, ih _ y hy, Bool.or_true]
    · rw [if_neg c] at hy
      have h2 := ih _ y hy
      split
      · rw [List.contains_cons, h2, Bool.or_true]
      · exact h2
theorem sumT_add (xs : List S25) : ∀ (d i : Nat) (a s : Int), wrap64 (a + sumT xs d i s) = sumT xs d i (wrap64 (a + s)) := by
  intro d
  induction d with
  | zero => intro i a s; rfl
  | succ d ih =>
    intro i a s
    unfold sumT
    rw [ih]
    congr 1
    unfold wrap64
    omega
theorem sumT_shift (y : S25) (ys : List S25) : ∀ (d i : Nat) (s : Int), sumT (y :: ys) d (i + 1) s = sumT ys d i s := by
  intro d
  induction d with
  | zero => intro i s; rfl
  | succ d ih =>
    intro i s
    unfold sumT
    rw [ih]
    rfl
theorem same5' (a b c d e : Int) : (!(a == a) || (!(b == b) || (!(c == c) || (!(d == d) || !(e == e))))) = false := by simp
theorem FnTripLists : ∀ (l0 : List Int), l0.length ≤ maxLen → (∀ x ∈ l0, (Lit.int .u8 x).wf = true) → ∃ k, laws_FnTripLists.f k l0 = some true := by
  intro l hl hb
  apply Evn.get
  have hB : Byts l := byts_of hb
  have j4 : Evn (fun k => laws_FnTripLists.j4 k l) true := by
    refine Evn.step ?_
    simp only [laws_FnTripLists.j4]
    obtain ⟨xs, hx, hlen⟩ := dw_DrawPeopleInside hB
    refine Evn.bind hx (Evn.bind (im_PeopleInside xs (by omega)) (Evn.bind (sp_PeopleInside xs (by omega)) ?_))
    simp only [if_true, bne_self_eq_false]
    refine Evn.step ?_
    simp only [laws_FnTripLists.j5, Bool.false_eq_true, if_false]
    have fin : Evn (fun k => laws_FnTripLists.j6 k xs (insideT xs).1 false) true := by
      refine Evn.step ?_
      simp only [laws_FnTripLists.j6, Bool.false_eq_true, if_false]
      exact Evn.done _
    refine Evn.ite (fun ok => ?_) (fun _ => fin)
    cases xs with
    | nil => exact fin
    | cons y ys =>
      have hp : (((y :: ys).length : Int) > 0) := by rw [List.length_cons]; omega
      have hp1 : 1 ≤ ((y :: ys).length : Int) := by omega
      rw [decide_eq_true hp]
      refine Evn.step ?_
      simp only [laws_FnTripLists.j6, if_true, if_pos hp1]
      have hall : (y :: ys).all okT = true := by
        unfold insideT at ok
        split at ok
        · assumption
        · exact absurd ok (by decide)
      have h2 := hall
      rw [List.all_cons, Bool.and_eq_true] at h2
      have e1 : (y :: ys).take 1 = [y] := rfl
      have e2 : (y :: ys).drop 1 = ys := rfl
      rw [e1, e2]
      refine Evn.bind (im_PeopleInside [y] (by simp)) (Evn.bind (im_PeopleInside ys (by rw [List.length_cons] at hlen; omega)) ?_)
      have q1 : insideT [y] = (wrap64 (0 + y.f2), true) := by
        unfold insideT
        rw [if_pos (by rw [List.all_cons, h2.1]; rfl)]
        rfl
      have q2 : insideT ys = (sumT ys ys.length 0 0, true) := by unfold insideT; rw [if_pos h2.2]
      have q3 : insideT (y :: ys) = (sumT ys ys.length 0 (wrap64 (0 + y.f2)), true) := by
        unfold insideT
        rw [if_pos hall, List.length_cons, sumT, sumT_shift]
        rfl
      rw [q1, q2, q3]
      simp only [if_true]
      have q4 : wrap64 (wrap64 (0 + y.f2) + sumT ys ys.length 0 0) = sumT ys ys.length 0 (wrap64 (0 + y.f2)) := by
        rw [sumT_add]
        congr 1
        unfold wrap64
        omega
      rw [q4, beq_self_eq_true]
      exact Evn.done _
  have j1 : Evn (fun k => laws_FnTripLists.j1 k l false) true := by
    refine Evn.step ?_
    simp only [laws_FnTripLists.j1, Bool.false_eq_true, if_false]
    obtain ⟨r, hr, hlen⟩ := dw_DrawOverdueTrips hB
    refine Evn.bind hr (Evn.bind (im_OverdueTrips r.1 r.2 (by omega)) (Evn.bind (sp_OverdueTrips r.1 r.2 (by omega)) ?_))
    simp only [bne_self_eq_false, Bool.false_eq_true, if_false]
    have hn : (lateTs r.1 r.2).1.length ≤ 4611686018427387904 := by
      unfold lateTs
      split
      · have := lateFrom_len r.1 r.2 r.1.length 0
        dsimp only; omega
      · simp
    refine Evn.bind (ev_vInts _ hn) ?_
    rw [Bool.not_true]
    refine Evn.step ?_
    simp only [laws_FnTripLists.j2, Bool.false_eq_true, if_false]
    have fin : Evn (fun k => laws_FnTripLists.j3 k l r.1 r.2 (lateTs r.1 r.2).1 false) true := by
      refine Evn.step ?_
      simp only [laws_FnTripLists.j3, Bool.false_eq_true, if_false]
      exact j4
    refine Evn.ite (fun ok => ?_) (fun _ => fin)
    by_cases c : r.2 < 999
    · rw [decide_eq_true c]
      have hok : r.1.all okT = true ∧ (0 ≤ r.2 ∧ r.2 ≤ 999) := by
        unfold lateTs at ok
        split at ok
        · assumption
        · exact absurd ok (by decide)
      refine Evn.step ?_
      simp only [laws_FnTripLists.j3, if_true]
      rw [wrap_id (by omega) (by omega)]
      have e1 : lateTs r.1 (r.2 + 1) = (lateFrom r.1 (r.2 + 1) r.1.length 0, true) := by unfold lateTs; rw [if_pos ⟨hok.1, by omega, by omega⟩]
      have e2 : lateTs r.1 r.2 = (lateFrom r.1 r.2 r.1.length 0, true) := by unfold lateTs; rw [if_pos hok]
      refine Evn.bind (im_OverdueTrips r.1 (r.2 + 1) (by omega)) ?_
      rw [e1, e2]
      simp only [if_true]
      have n1 := lateFrom_len r.1 r.2 r.1.length 0
      have n2 := lateFrom_len r.1 (r.2 + 1) r.1.length 0
      refine Evn.bind (ev_vWithin _ _ (by omega) (by omega) (late_sub r.1 r.2 _ _)) ?_
      simp only [if_true]
      exact j4
    · rw [decide_eq_false c]; exact fin
  have j0 : Evn (fun k => laws_FnTripLists.j0 k l false) true := by
    refine Evn.step ?_
    simp only [laws_FnTripLists.j0, Bool.false_eq_true, if_false]
    obtain ⟨t, ht, hz⟩ := dw_DrawParseTrip hB
    obtain ⟨r, hr, q1⟩ := im_ParseTrip t (by omega)
    obtain ⟨r', hr', q2⟩ := sp_ParseTrip t (by omega)
    obtain rfl := tripRead_uniq q1 q2
    refine Evn.bind ht (Evn.bind hr (Evn.bind (im_TripText _ _ _ _ _) (Evn.bind hr' ?_)))
    simp only [same5', Bool.false_eq_true, if_false, bne_self_eq_false]
    refine Evn.ite (fun ok => ?_) (fun _ => j1)
    rcases q1.1 with e | ⟨a, b, c, d, e, h1, h2, h3⟩
    · rw [e] at ok; exact absurd ok (by decide)
    · rw [h3]
      dsimp only
      unfold txtT
      simp only [if_pos h1, if_true, h2, bne_self_eq_false]
      exact j1
  unfold laws_FnTripLists.f laws_vBig.f
  simp only [Option.bind_some]
  refine Evn.ite (fun _ => Evn.done _) (fun _ => ?_)
  obtain ⟨t, ht⟩ := dw_DrawTripText hB
  refine Evn.bind ht ?_
  obtain ⟨a, b, c, d, e⟩ := t
  dsimp only
  refine Evn.bind (im_TripText a b c d e) ?_
  have hz : (txtT a b c d e).1.size ≤ 1048576 := by
    unfold txtT
    by_cases g : goodT a b c d e = true
    · rw [if_pos g]
      obtain ⟨a', b', c', d', e', x1, x2, x3, x4, x5, y1, y2, y3, y4, y5⟩ := goodT_nat g
      rw [x1, x2, x3, x4, x5]
      have := tripT_size a' b' c' d' e' y1 y2 y3 y4 y5
      dsimp only
      omega
    · rw [if_neg g]; decide
  obtain ⟨r, hr, q1⟩ := im_ParseTrip _ hz
  refine Evn.bind hr (Evn.bind (sp_TripText a b c d e) ?_)
  simp only [if_true, bne_self_eq_false, Bool.false_eq_true, if_false]
  refine Evn.ite (fun ok => ?_) (fun _ => j0)
  unfold txtT at ok q1
  by_cases g : goodT a b c d e = true
  · rw [if_pos g] at q1
    obtain ⟨a', b', c', d', e', rfl, rfl, rfl, rfl, rfl, _⟩ := goodT_nat g
    have h3 := q1.2 a' b' c' d' e' g rfl
    rw [h3]
    simp only [if_true, same5']
    exact j0
  · rw [if_neg g] at ok; exact absurd ok (by decide)

end Go.Proofs.YtmeaacbnjpgepaaGreatDoor.Pure
