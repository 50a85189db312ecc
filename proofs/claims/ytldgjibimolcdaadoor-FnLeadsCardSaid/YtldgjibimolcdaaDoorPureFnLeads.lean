/- The plain statement of FnLeads: its plain function returns true at every input. No condition beyond the arguments' own bounds. -/
import Derived.Test.YtldgjibimolcdaaDoorQFnLeadsx15
import Derived.Test.YtldgjibimolcdaaDoorVLAid
namespace Go.Proofs.YtldgjibimolcdaaDoor.Pure
open Go.RowKit Go.Proofs.YtldgjibimolcdaaDoorW.PrintWords Go.Proofs.YtldgjibimolcdaaDoorW.PrintLast Go.Proofs.YtldgjibimolcdaaDoor.Aid Go.Proofs.YtldgjibimolcdaaDoor.QFnLeads
set_option linter.unusedVariables false
set_option linter.unusedSimpArgs false

theorem sp_l1In (x y z : Int) : spec_l1In.f x y z = some (decide (y ≤ x ∧ x ≤ z)) := by
  unfold spec_l1In.f
  by_cases h : x ≥ y <;> simp [h] <;> omega

theorem sp_l4Station (x : Int) : spec_l4Station.f x = some (decide (0 ≤ x ∧ x ≤ 7)) := by
  simp only [spec_l4Station.f, sp_l1In, Option.bind_some]

def okLead (x : S26) : Bool := decide (1 ≤ x.f0 ∧ x.f0 ≤ 99) && (decide (0 ≤ x.f1 ∧ x.f1 ≤ 7) && (decide (1 ≤ x.f2 ∧ x.f2 ≤ 9) && (decide (1 ≤ x.f3 ∧ x.f3 ≤ 9) && decide (0 ≤ x.f4 ∧ x.f4 ≤ 3))))
/-! The rules of a list of Lead, as both texts have them. -/
def goodLead (xs : List S26) : Nat → Nat → Bool
  | 0, _ => decide (xs.length ≤ 12)
  | d + 1, i => (okLead (xs.getD i z26) && (decide (i = 0) || decide ((xs.getD (i - 1) z26).f0 < (xs.getD i z26).f0))) && goodLead xs d (i + 1)
def goodLeads (xs : List S26) : Bool := goodLead xs xs.length 0
theorem goodLead_facts (xs : List S26) : ∀ (d i : Nat), i + d = xs.length → goodLead xs d i = true → (∀ j, i ≤ j → j < xs.length → okLead (xs.getD j z26) = true ∧ (j = 0 ∨ (xs.getD (j - 1) z26).f0 < (xs.getD j z26).f0)) ∧ xs.length ≤ 12 := by
  intro d
  induction d with
  | zero =>
    intro i h hg
    exact ⟨fun j h1 h2 => by omega, by simpa [goodLead] using hg⟩
  | succ d ih =>
    intro i h hg
    simp only [goodLead, Bool.and_eq_true, Bool.or_eq_true, decide_eq_true_eq] at hg
    obtain ⟨⟨g1, g2⟩, g3⟩ := hg
    obtain ⟨h1, h2⟩ := ih (i + 1) (by omega) g3
    refine ⟨fun j hj hl => ?_, h2⟩
    rcases Nat.lt_or_ge i j with hc | hc
    · exact h1 j hc hl
    · obtain rfl : j = i := by omega
      exact ⟨g1, g2⟩
theorem goodLeads_len {xs : List S26} (h : goodLeads xs = true) : xs.length ≤ 12 := (goodLead_facts xs xs.length 0 (by omega) h).2
theorem goodLeads_ok {xs : List S26} (h : goodLeads xs = true) (j : Nat) (hj : j < xs.length) : okLead (xs.getD j z26) = true := ((goodLead_facts xs xs.length 0 (by omega) h).1 j (by omega) hj).1
theorem goodLeads_step {xs : List S26} (h : goodLeads xs = true) (j : Nat) (hj : j + 1 < xs.length) : (xs.getD j z26).f0 < (xs.getD (j + 1) z26).f0 := by
  have h1 := ((goodLead_facts xs xs.length 0 (by omega) h).1 (j + 1) (by omega) hj).2
  rcases h1 with h1 | h1
  · omega
  · exact h1

/-- A whole number's decimal text. -/
def numT (n : Int) : ByteArray := ⟨(Lib.itoa n).toArray⟩
theorem dg_ext (n : Nat) (h : n < 10) : (⟨#[48, 49, 50, 51, 52, 53, 54, 55, 56, 57]⟩ : ByteArray).extract n (n + 1) = ⟨#[UInt8.ofNat (48 + n)]⟩ := by
  have h2 : n = 0 ∨ n = 1 ∨ n = 2 ∨ n = 3 ∨ n = 4 ∨ n = 5 ∨ n = 6 ∨ n = 7 ∨ n = 8 ∨ n = 9 := by omega
  rcases h2 with rfl | rfl | rfl | rfl | rfl | rfl | rfl | rfl | rfl | rfl <;> rfl
theorem numT_small (n : Nat) (h : n < 10) : numT n = ⟨#[UInt8.ofNat (48 + n)]⟩ := by
  unfold numT
  rw [Lib.itoa_nonneg, Lib.decDigits, dif_pos h]
theorem numT_big (n : Nat) (h : ¬ n < 10) : numT n = numT ((n / 10 : Nat) : Int) ++ ⟨#[UInt8.ofNat (48 + n % 10)]⟩ := by
  unfold numT
  rw [Lib.itoa_nonneg, Lib.itoa_nonneg, Lib.decDigits, dif_neg h]
  apply ByteArray.ext
  simp
theorem numT_size : ∀ (k n : Nat), n < 10 ^ (k + 1) → (numT n).size ≤ k + 1
  | 0, n, h => by
    rw [numT_small n (by simpa using h)]
    exact Nat.le_refl 1
  | k + 1, n, h => by
    by_cases h1 : n < 10
    · rw [numT_small n h1]
      show 1 ≤ _
      omega
    · rw [numT_big n h1, ByteArray.size_append]
      have h2 := numT_size k (n / 10) (by rw [Nat.pow_succ] at h; omega)
      show _ + 1 ≤ _
      omega
theorem Evn.pos {α : Type} {r : α} {c : Prop} [Decidable c] {g g' : Nat → Option α} (h : c) (h' : Evn g r) : Evn (fun k => if c then g k else g' k) r := Evn.ite (fun _ => h') (fun hn => absurd h hn)
theorem sz1 (a : UInt8) : (⟨#[a]⟩ : ByteArray).size = 1 := rfl
theorem sz4 (a b c d : UInt8) : (⟨#[a, b, c, d]⟩ : ByteArray).size = 4 := rfl
theorem sz5 (a b c d e : UInt8) : (⟨#[a, b, c, d, e]⟩ : ByteArray).size = 5 := rfl
theorem sz6 (a b c d e f : UInt8) : (⟨#[a, b, c, d, e, f]⟩ : ByteArray).size = 6 := rfl
theorem sz7 (a b c d e f g : UInt8) : (⟨#[a, b, c, d, e, f, g]⟩ : ByteArray).size = 7 := rfl

def okL5 (a b c d e : Int) : Bool := decide (1 ≤ a ∧ a ≤ 99) && (decide (0 ≤ b ∧ b ≤ 7) && (decide (1 ≤ c ∧ c ≤ 9) && (decide (1 ≤ d ∧ d ≤ 9) && decide (0 ≤ e ∧ e ≤ 3))))
/-- A lead's text. -/
def leadT (a b c d e : Int) : ByteArray := (((((((((⟨#[108, 101, 97, 100, 32]⟩ : ByteArray) ++ numT a) ++ (⟨#[32, 97, 116, 32]⟩ : ByteArray)) ++ numT b) ++ (⟨#[58, 32, 115, 105, 122, 101, 32]⟩ : ByteArray)) ++ numT c) ++ (⟨#[32, 101, 97, 115, 101, 32]⟩ : ByteArray)) ++ numT d) ++ (⟨#[32]⟩ : ByteArray)) ++ stW e
theorem stW_size (e : Int) (h : 0 ≤ e) (h' : e < 4) : (stW e).size ≤ 5 := by
  have h2 : e = 0 ∨ e = 1 ∨ e = 2 ∨ e = 3 := by omega
  rcases h2 with rfl | rfl | rfl | rfl <;> decide

theorem sp_l18One (x : S26) : spec_l18One.f x.f0 x.f1 x.f2 x.f3 x.f4 = some (okLead x) := by
  simp only [spec_l18One.f, sp_l4Station, spec_l18State.f, sp_l1In, Option.bind_some, ite_and, okLead]
theorem sp_l18One5 (a b c d e : Int) : spec_l18One.f a b c d e = some (okL5 a b c d e) := by
  simp only [spec_l18One.f, sp_l4Station, spec_l18State.f, sp_l1In, Option.bind_some, ite_and, okL5]

theorem sp_l1Num : ∀ (n : Nat), n < 1000000 → Evn (fun k => spec_l1Num.f k (n : Int)) (numT n) := by
  intro n
  induction n using Nat.strongRecOn with
  | _ n ih =>
    intro h
    refine Evn.step ?_
    have h0 : ¬ (n : Int) < 0 := by omega
    by_cases h1 : n < 10
    · have h2 : (n : Int) < 10 := by omega
      have h3 : 0 ≤ (n : Int) := by omega
      have h4 : (n : Int) ≤ ((n + 1 : Nat) : Int) := by omega
      have h5 : ((n + 1 : Nat) : Int) ≤ 10 := by omega
      simp only [spec_l1Num.f, if_neg h0, if_pos h2, if_pos h3, wrap_succ (show n < 4611686018427387904 by omega), if_pos h4, if_pos h5, Int.toNat_natCast]
      rw [dg_ext n h1, ← numT_small n h1]
      exact Evn.done _
    · have h2 : ¬ (n : Int) < 10 := by omega
      have hd : Int.tdiv (n : Int) 10 = ((n / 10 : Nat) : Int) := rfl
      have hm : Int.tmod (n : Int) 10 = ((n % 10 : Nat) : Int) := rfl
      have hw : wrap64 ((n / 10 : Nat) : Int) = ((n / 10 : Nat) : Int) := wrap_id (by omega) (by omega)
      have hb := ih (n / 10) (by omega) (by omega)
      have hz := numT_size 5 (n / 10) (by have : (10 : Nat) ^ (5 + 1) = 1000000 := rfl; omega)
      have hq : n % 10 < 10 := by omega
      simp only [spec_l1Num.f, if_neg h0, if_neg h2, hd, hm, hw]
      refine Evn.bind hb ?_
      have g1 : 0 ≤ ((n % 10 : Nat) : Int) := by omega
      have g2 : ((n % 10 : Nat) : Int) ≤ ((n % 10 + 1 : Nat) : Int) := by omega
      have g3 : ((n % 10 + 1 : Nat) : Int) ≤ 10 := by omega
      have hx := dg_ext (n % 10) hq
      simp only [if_pos g1, wrap_succ (show n % 10 < 4611686018427387904 by omega), if_pos g2, if_pos g3, Int.toNat_natCast, hx]
      refine Evn.pos (by rw [sz1]; omega) ?_
      rw [← numT_big n h1]
      exact Evn.done _

theorem sp_l18Text (a b c d : Nat) (e : Int) (ha : a < 1000) (hb : b < 1000) (hc : c < 1000) (hd : d < 1000) (h0 : 0 ≤ e) (h4 : e < 4) : Evn (fun k => spec_l18Text.f k a b c d e) (leadT a b c d e) := by
  have za := numT_size 2 a ha
  have zb := numT_size 2 b hb
  have zc := numT_size 2 c hc
  have zd := numT_size 2 d hd
  have ze := stW_size e h0 h4
  unfold spec_l18Text.f leadT
  refine Evn.bind (sp_l1Num a (by omega)) ?_
  refine Evn.pos (by first | omega | (simp only [ByteArray.size_append, sz1, sz4, sz5, sz6, sz7]; omega)) ?_
  refine Evn.pos (by first | omega | (simp only [ByteArray.size_append, sz1, sz4, sz5, sz6, sz7]; omega)) ?_
  refine Evn.bind (sp_l1Num b (by omega)) ?_
  refine Evn.pos (by first | omega | (simp only [ByteArray.size_append, sz1, sz4, sz5, sz6, sz7]; omega)) ?_
  refine Evn.pos (by first | omega | (simp only [ByteArray.size_append, sz1, sz4, sz5, sz6, sz7]; omega)) ?_
  refine Evn.bind (sp_l1Num c (by omega)) ?_
  refine Evn.pos (by first | omega | (simp only [ByteArray.size_append, sz1, sz4, sz5, sz6, sz7]; omega)) ?_
  refine Evn.pos (by first | omega | (simp only [ByteArray.size_append, sz1, sz4, sz5, sz6, sz7]; omega)) ?_
  refine Evn.bind (sp_l1Num d (by omega)) ?_
  refine Evn.pos (by first | omega | (simp only [ByteArray.size_append, sz1, sz4, sz5, sz6, sz7]; omega)) ?_
  refine Evn.pos (by first | omega | (simp only [ByteArray.size_append, sz1, sz4, sz5, sz6, sz7]; omega)) ?_
  refine Evn.bind (Evn.done _) ?_
  refine Evn.pos h0 ?_
  refine Evn.pos h4 ?_
  change Evn (fun _ => if _ + (stW e).size ≤ 9223372036854775807 then some (_ ++ stW e) else none) _
  refine Evn.pos (by simp only [ByteArray.size_append, sz1, sz4, sz5, sz6, sz7]; omega) ?_
  exact Evn.done _

def txtL (a b c d e : Int) : ByteArray × Bool := if okL5 a b c d e = true then (leadT a b c d e, true) else ((⟨#[]⟩ : ByteArray), false)
theorem okL5_rng {a b c d e : Int} (h : okL5 a b c d e = true) : (1 ≤ a ∧ a ≤ 99) ∧ (0 ≤ b ∧ b ≤ 7) ∧ (1 ≤ c ∧ c ≤ 9) ∧ (1 ≤ d ∧ d ≤ 9) ∧ (0 ≤ e ∧ e ≤ 3) := by
  simp only [okL5, Bool.and_eq_true, decide_eq_true_eq] at h
  exact h
theorem sp_LeadText (a b c d e : Int) : Evn (fun k => spec_LeadText.f k a b c d e) (txtL a b c d e) := by
  unfold spec_LeadText.f txtL
  simp only [sp_l18One5, Option.bind_some]
  by_cases h : okL5 a b c d e = true
  · obtain ⟨h1, h2, h3, h4, h5⟩ := okL5_rng h
    obtain ⟨a, rfl⟩ : ∃ n : Nat, a = n := ⟨a.toNat, by omega⟩
    obtain ⟨b, rfl⟩ : ∃ n : Nat, b = n := ⟨b.toNat, by omega⟩
    obtain ⟨c, rfl⟩ : ∃ n : Nat, c = n := ⟨c.toNat, by omega⟩
    obtain ⟨d, rfl⟩ : ∃ n : Nat, d = n := ⟨d.toNat, by omega⟩
    simp only [if_pos h]
    exact Evn.bind (sp_l18Text a b c d e (by omega) (by omega) (by omega) (by omega) (by omega) (by omega)) (Evn.done _)
  · simp only [if_neg h]
    exact Evn.done _

def ofL (l : List UInt8) : ByteArray := ⟨l.toArray⟩
theorem ofL_data (b : ByteArray) : ofL b.data.toList = b := by cases b; simp [ofL]
theorem data_ofL (l : List UInt8) : (ofL l).data.toList = l := by simp [ofL]
theorem size_data (b : ByteArray) : b.data.toList.length = b.size := by cases b; simp [ByteArray.size]
theorem toList_data (b : ByteArray) : b.toList = b.data.toList := ByteArray.toList_eq b |>.trans (by simp)
theorem byteL_eq {a b : ByteArray} (h : a.toList = b.toList) : a = b := by
  rw [toList_data, toList_data] at h
  rw [← ofL_data a, ← ofL_data b, h]
theorem dataExt {a b : ByteArray} (h : a.data.toList = b.data.toList) : a = b := by rw [← ofL_data a, ← ofL_data b, h]
/-- The words of a row of bytes, at each 'c'. -/
def wordsL (c : UInt8) : List UInt8 → List (List UInt8)
  | [] => [[]]
  | b :: l => if b = c then [] :: wordsL c l else (b :: (wordsL c l).headD []) :: (wordsL c l).tail
theorem wordsL_cons (c : UInt8) (l : List UInt8) : wordsL c l = (wordsL c l).headD [] :: (wordsL c l).tail := by
  cases l with
  | nil => rfl
  | cons b l => unfold wordsL; split <;> rfl
theorem wordsL_hit {b c : UInt8} (h : b = c) (l : List UInt8) : wordsL c (b :: l) = [] :: wordsL c l := by
  conv => lhs; unfold wordsL
  rw [if_pos h]
theorem wordsL_miss {b c : UInt8} (h : ¬ b = c) (l : List UInt8) : wordsL c (b :: l) = (b :: (wordsL c l).headD []) :: (wordsL c l).tail := by
  conv => lhs; unfold wordsL
  rw [if_neg h]
theorem wordsL_one (c : UInt8) : ∀ w : List UInt8, c ∉ w → wordsL c w = [w]
  | [], _ => rfl
  | b :: w, h => by
    have h1 : ¬ b = c := fun e => h (by simp [e])
    have h2 := wordsL_one c w (fun hm => h (List.mem_cons_of_mem _ hm))
    unfold wordsL
    rw [if_neg h1, h2]
    rfl
theorem wordsL_app (c : UInt8) (r : List UInt8) : ∀ w : List UInt8, c ∉ w → wordsL c (w ++ c :: r) = w :: wordsL c r
  | [], _ => by
    rw [List.nil_append]
    conv => lhs; unfold wordsL
    rw [if_pos rfl]
  | b :: w, h => by
    have h1 : ¬ b = c := fun e => h (by simp [e])
    have h2 := wordsL_app c r w (fun hm => h (List.mem_cons_of_mem _ hm))
    rw [List.cons_append]
    conv => lhs; unfold wordsL
    rw [if_neg h1, h2]
    rfl
theorem wordsL_len (c : UInt8) : ∀ (l w : List UInt8), w ∈ wordsL c l → w.length ≤ l.length
  | [], w, h => by
    have : w = [] := by simpa [wordsL] using h
    subst this
    exact Nat.le_refl _
  | b :: l, w, h => by
    have ih := wordsL_len c l
    unfold wordsL at h
    split at h
    · rcases List.mem_cons.1 h with rfl | h
      · exact Nat.zero_le _
      · have := ih w h
        rw [List.length_cons]
        omega
    · rcases List.mem_cons.1 h with rfl | h
      · have := ih ((wordsL c l).headD []) (by rw [wordsL_cons c l]; exact List.mem_cons_self)
        simp only [List.length_cons]
        omega
      · have := ih w (List.mem_of_mem_tail h)
        rw [List.length_cons]
        omega
theorem indexByte_app (c : UInt8) (r : List UInt8) : ∀ w : List UInt8, c ∉ w → Lib.indexByte (w ++ c :: r) c = (w.length : Int)
  | [], _ => by simp [Lib.indexByte]
  | b :: w, h => by
    have h1 : (b == c) = false := by
      have : ¬ b = c := fun e => h (by simp [e])
      simpa using this
    have h2 := indexByte_app c r w (fun hm => h (List.mem_cons_of_mem _ hm))
    have h3 : (((w.length : Nat) : Int) == -1) = false := beq_eq_false_iff_ne.2 (by omega)
    rw [List.cons_append, Lib.indexByte, h1, h2, h3]
    simp
theorem indexByte_no (c : UInt8) : ∀ w : List UInt8, c ∉ w → Lib.indexByte w c = -1
  | [], _ => rfl
  | b :: w, h => by
    have h1 : (b == c) = false := by
      have : ¬ b = c := fun e => h (by simp [e])
      simpa using this
    have h2 := indexByte_no c w (fun hm => h (List.mem_cons_of_mem _ hm))
    rw [Lib.indexByte, h1, h2]
    rfl
theorem split_words (c : UInt8) : ∀ (n : Nat) (l : List UInt8), l.length ≤ n → Lib.splitK [c] 0 (Lib.count l [c]) l = wordsL c l := by
  intro n
  induction n with
  | zero =>
    intro l h
    obtain rfl : l = [] := List.eq_nil_of_length_eq_zero (by omega)
    rw [Lib.count_one]
    rfl
  | succ n ih =>
    intro l h
    by_cases hc : c ∈ l
    · obtain ⟨w, r, rfl, hw⟩ := List.eq_append_cons_of_mem hc
      have hi : Lib.index (w ++ c :: r) [c] = ((w.length : Nat) : Int) := (Lib.index_one _ _).trans (indexByte_app c r w hw)
      have hcnt : Lib.count (w ++ c :: r) [c] = Lib.count r [c] + 1 := by
        rw [Lib.count_one, Lib.count_one, List.count_append, List.count_cons_self, List.count_eq_zero_of_not_mem hw]
        omega
      have hm : ¬ (Lib.index (w ++ c :: r) [c] == -1) = true := by rw [hi]; exact fun e => by have := beq_iff_eq.1 e; omega
      have hr : r.length ≤ n := by simp only [List.length_append, List.length_cons] at h; omega
      rw [hcnt, Lib.splitK, if_neg hm, hi, wordsL_app c r w hw, Int.toNat_natCast, ← ih r hr]
      simp
    · rw [Lib.count_one, List.count_eq_zero_of_not_mem hc, wordsL_one c l hc]
      rfl
/-- A text's words. -/
def wordsB (c : UInt8) (s : ByteArray) : List ByteArray := (wordsL c s.data.toList).map ofL
theorem splitB_words (c : UInt8) (s : ByteArray) : Lib.splitB ⟨#[c]⟩ 0 (Lib.countB s ⟨#[c]⟩) s = wordsB c s := by
  have h := Lib.splitB_data ⟨#[c]⟩ 0 (Lib.countB s ⟨#[c]⟩) s
  have h2 : Lib.splitK [c] 0 (Lib.countB s ⟨#[c]⟩) s.data.toList = wordsL c s.data.toList := split_words c s.data.toList.length s.data.toList (Nat.le_refl _)
  have h3 : (Lib.splitB ⟨#[c]⟩ 0 (Lib.countB s ⟨#[c]⟩) s).map (·.data.toList) = wordsL c s.data.toList := h.trans h2
  unfold wordsB
  rw [← h3, List.map_map]
  conv => lhs; rw [← List.map_id (Lib.splitB ⟨#[c]⟩ 0 (Lib.countB s ⟨#[c]⟩) s)]
  exact List.map_congr_left fun b _ => (ofL_data b).symm
theorem wordsB_size (c : UInt8) (s w : ByteArray) (h : w ∈ wordsB c s) : w.size ≤ s.size := by
  obtain ⟨l, hl, rfl⟩ := List.mem_map.1 h
  have := wordsL_len c _ l hl
  rw [size_data] at this
  exact this
theorem wordsB_app (c : UInt8) (w r : ByteArray) (h : c ∉ w.data.toList) : wordsB c (w ++ ((⟨#[c]⟩ : ByteArray) ++ r)) = w :: wordsB c r := by
  have e : (w ++ ((⟨#[c]⟩ : ByteArray) ++ r)).data.toList = w.data.toList ++ c :: r.data.toList := by simp
  unfold wordsB
  rw [e, wordsL_app c _ _ h, List.map_cons, ofL_data]
theorem wordsB_one (c : UInt8) (w : ByteArray) (h : c ∉ w.data.toList) : wordsB c w = [w] := by
  unfold wordsB
  rw [wordsL_one c _ h, List.map_cons, ofL_data]
  rfl
/-- The number that a row of digits spells behind 'v'. -/
def decV : Nat → List UInt8 → Nat
  | v, [] => v
  | v, b :: l => decV (10 * v + (b.toNat - 48)) l
def digL (l : List UInt8) : Prop := ∀ b ∈ l, 48 ≤ b.toNat ∧ b.toNat ≤ 57
theorem decV_append : ∀ (a b : List UInt8) (v : Nat), decV v (a ++ b) = decV (decV v a) b
  | [], _, _ => rfl
  | _ :: a, b, v => decV_append a b _
theorem decV_ge : ∀ (l : List UInt8) (v : Nat), v ≤ decV v l
  | [], _ => Nat.le_refl _
  | b :: l, v => by
    have := decV_ge l (10 * v + (b.toNat - 48))
    show v ≤ decV (10 * v + (b.toNat - 48)) l
    omega
theorem digit_nat (n : Nat) (h : n < 10) : (UInt8.ofNat (48 + n)).toNat = 48 + n := by
  rw [UInt8.toNat_ofNat']
  omega
theorem numT_digits : ∀ n : Nat, digL (numT n).data.toList ∧ decV 0 (numT n).data.toList = n ∧ 1 ≤ (numT n).size := by
  intro n
  induction n using Nat.strongRecOn with
  | _ n ih =>
    by_cases h1 : n < 10
    · rw [numT_small n h1]
      refine ⟨fun b hb => ?_, ?_, Nat.le_refl _⟩
      · obtain rfl : b = UInt8.ofNat (48 + n) := by simpa using hb
        rw [digit_nat n h1]
        omega
      · show 10 * 0 + ((UInt8.ofNat (48 + n)).toNat - 48) = n
        rw [digit_nat n h1]
        omega
    · obtain ⟨i1, i2, i3⟩ := ih (n / 10) (by omega)
      have hq : n % 10 < 10 := by omega
      have e : (numT ((n / 10 : Nat) : Int) ++ (⟨#[UInt8.ofNat (48 + n % 10)]⟩ : ByteArray)).data.toList = (numT ((n / 10 : Nat) : Int)).data.toList ++ [UInt8.ofNat (48 + n % 10)] := by simp
      rw [numT_big n h1]
      refine ⟨fun b hb => ?_, ?_, ?_⟩
      · rw [e] at hb
        rcases List.mem_append.1 hb with hb | hb
        · exact i1 b hb
        · obtain rfl : b = UInt8.ofNat (48 + n % 10) := by simpa using hb
          rw [digit_nat _ hq]
          omega
      · rw [e, decV_append, i2]
        show 10 * (n / 10) + ((UInt8.ofNat (48 + n % 10)).toNat - 48) = n
        rw [digit_nat _ hq]
        omega
      · rw [ByteArray.size_append]
        omega
theorem numT_no (c : UInt8) (h : c.toNat < 48 ∨ 57 < c.toNat) (n : Nat) : c ∉ (numT n).data.toList := fun hm => by
  have := (numT_digits n).1 c hm
  omega
theorem cut_last (w : ByteArray) (x : UInt8) : (w ++ (⟨#[x]⟩ : ByteArray)).extract 0 w.size = w := by
  apply dataExt
  rw [Lib.extract_data]
  simp only [ByteArray.data_append, Array.toList_append, List.drop_zero, Nat.sub_zero]
  rw [← size_data, List.take_left]
theorem get_last (w : ByteArray) (x : UInt8) : (w ++ (⟨#[x]⟩ : ByteArray)).extract w.size (w.size + 1) = (⟨#[x]⟩ : ByteArray) := by
  apply dataExt
  rw [Lib.extract_data]
  simp only [ByteArray.data_append, Array.toList_append]
  rw [← size_data, List.drop_left, Nat.add_sub_cancel_left]
  rfl
theorem rdOf_mem (ws : List ByteArray) (i : Nat) (h : i < ws.length) : rdOf ByteArray.empty ws (i : Int) ∈ ws := by
  show ws.getD (i : Int).toNat ByteArray.empty ∈ ws
  rw [Int.toNat_natCast, List.getD, List.getElem?_eq_getElem h, Option.getD_some]
  exact List.getElem_mem _
theorem wordsB_pos (c : UInt8) (s : ByteArray) : 0 < (wordsB c s).length := by
  unfold wordsB
  rw [wordsL_cons]
  exact Nat.succ_pos _

theorem bt_at (s : ByteArray) (j : Nat) (h : j < s.size) : ∃ b : UInt8, bt s (j : Int) = (b.toNat : Int) ∧ s.data.toList.drop j = b :: s.data.toList.drop (j + 1) := by
  refine ⟨s[j], ?_, ?_⟩
  · unfold bt
    simp [h]
  · have h' : j < s.data.toList.length := by rw [size_data]; exact h
    rw [List.drop_eq_getElem_cons h']
    rfl
theorem byte_eq (b c : UInt8) : ((b.toNat : Int) = (c.toNat : Int)) ↔ b = c := by
  constructor
  · intro h
    exact UInt8.toNat_inj.1 (by omega)
  · rintro rfl
    rfl
theorem sp_l1Split_l0 (s : ByteArray) (c : UInt8) (hs : s.size < 1099511627776) : ∀ (n i j : Nat) (acc : List ByteArray), j + n = s.size → i ≤ j → acc.length ≤ j →
    Evn (fun k => spec_l1Split.l0 k s (c.toNat : Int) acc (i : Int) (j : Int)) (acc ++ ofL ((s.data.toList.drop i).take (j - i) ++ (wordsL c (s.data.toList.drop j)).headD []) :: (wordsL c (s.data.toList.drop j)).tail.map ofL) := by
  intro n
  induction n with
  | zero =>
    intro i j acc hj hi ha
    refine Evn.step ?_
    have h1 : ¬ (j : Int) < (s.size : Int) := by omega
    have h2 : 0 ≤ (i : Int) := by omega
    have h3 : (i : Int) ≤ (s.size : Int) := by omega
    have h4 : acc.length < 8796093022208 := by omega
    simp only [spec_l1Split.l0, if_neg h1, if_pos h2, if_pos h3, if_pos h4, Int.toNat_natCast]
    refine (Evn.done _).eq_ ?_
    have hd : s.data.toList.drop j = [] := List.drop_eq_nil_of_le (by rw [size_data]; omega)
    have ht : (s.data.toList.drop i).take (j - i) = s.data.toList.drop i := List.take_of_length_le (by rw [List.length_drop, size_data]; omega)
    have he : s.extract i s.size = ofL (s.data.toList.drop i) := by rw [← Lib.extract_to_end, ofL_data]
    rw [hd, ht, he]
    simp [wordsL]
  | succ n ih =>
    intro i j acc hj hi ha
    refine Evn.step ?_
    obtain ⟨b, hb, hd⟩ := bt_at s j (by omega)
    have h1 : (j : Int) < (s.size : Int) := by omega
    have h2 : 0 ≤ (j : Int) := by omega
    have h3 : 0 ≤ (i : Int) := by omega
    have h4 : (i : Int) ≤ (j : Int) := by omega
    have h5 : (j : Int) ≤ (s.size : Int) := by omega
    have h6 : acc.length < 8796093022208 := by omega
    simp only [spec_l1Split.l0, if_pos h1, if_pos h2, if_pos h3, if_pos h4, if_pos h5, if_pos h6, Int.toNat_natCast, hb, byte_eq, wrap_succ (show j < 4611686018427387904 by omega)]
    rw [hd]
    refine Evn.ite (fun hc => ?_) (fun hc => ?_)
    · refine (ih (j + 1) (j + 1) _ (by omega) (Nat.le_refl _) (by rw [List.length_append]; simp; omega)).eq_ ?_
      have he : s.extract i j = ofL ((s.data.toList.drop i).take (j - i)) := by rw [← Lib.extract_data, ofL_data]
      rw [wordsL_hit hc, he]
      simp only [Nat.sub_self, List.take_zero, List.nil_append, List.headD_cons, List.append_nil, List.tail_cons, List.append_assoc, List.cons_append]
      rw [← List.map_cons, ← wordsL_cons]
    · refine (ih i (j + 1) acc (by omega) (by omega) (by omega)).eq_ ?_
      have he : (s.data.toList.drop i).take (j + 1 - i) = (s.data.toList.drop i).take (j - i) ++ [b] := by
        have hg : (s.data.toList.drop i)[j - i]? = some b := by
          rw [List.getElem?_drop, show i + (j - i) = j by omega]
          have : (s.data.toList.drop j)[0]? = some b := by rw [hd]; rfl
          simpa using this
        rw [show j + 1 - i = (j - i) + 1 by omega, List.take_add_one, hg]
        rfl
      rw [wordsL_miss hc, he]
      simp
theorem sp_l1Split (s : ByteArray) (c : UInt8) (hs : s.size < 1099511627776) (x : Int) (hx : x = (c.toNat : Int)) : Evn (fun k => spec_l1Split.f k s x) (wordsB c s) := by
  subst hx
  refine (sp_l1Split_l0 s c hs s.size 0 0 [] (by omega) (Nat.le_refl _) (Nat.le_refl _)).eq_ ?_
  simp only [Nat.sub_self, List.take_zero, List.nil_append, List.drop_zero]
  rw [← List.map_cons, ← wordsL_cons]
  rfl

theorem sp_l1Num_tot (x : Int) (h0 : -1000000 < x) (h1 : x < 1000000) : ∃ r, Evn (fun k => spec_l1Num.f k x) r := by
  by_cases h : x < 0
  · obtain ⟨n, hn⟩ : ∃ n : Nat, wrap64 (-x) = n := ⟨(-x).toNat, by unfold wrap64; omega⟩
    have hn2 : n < 1000000 := by unfold wrap64 at hn; omega
    refine ⟨(⟨#[45]⟩ : ByteArray) ++ numT n, Evn.step ?_⟩
    simp only [spec_l1Num.f, if_pos h, hn]
    refine Evn.bind (sp_l1Num n hn2) ?_
    have hz := numT_size 5 n (by have : (10 : Nat) ^ (5 + 1) = 1000000 := rfl; omega)
    refine Evn.pos (by omega) (Evn.done _)
  · obtain ⟨n, rfl⟩ : ∃ n : Nat, x = n := ⟨x.toNat, by omega⟩
    exact ⟨_, sp_l1Num n (by omega)⟩
theorem rd_end (w : ByteArray) (x : Int) (h0 : -1000000 < x) (h1 : x < 1000000) : ∃ r, Evn (fun k => (spec_l1Num.f k x).bind fun t130 => (if t130.toList = w.toList then (some (x, true)) else (some ((0 : Int), false)))) r := by
  obtain ⟨t, ht⟩ := sp_l1Num_tot x h0 h1
  by_cases h : t.toList = w.toList
  · exact ⟨_, Evn.bind ht (by simp only [if_pos h]; exact Evn.done _)⟩
  · exact ⟨_, Evn.bind ht (by simp only [if_neg h]; exact Evn.done _)⟩
theorem pow10_le {i : Nat} (h : i ≤ 6) : 10 ^ i ≤ 1000000 := Nat.pow_le_pow_right (by omega) h
theorem dig_int (v : Nat) (b : UInt8) (hv : v < 1000000) (h0 : 48 ≤ b.toNat) (h1 : b.toNat ≤ 57) : wrap64 (wrap64 (10 * (v : Int)) + (((b.toNat : Int) - 48) % 256)) = ((10 * v + (b.toNat - 48) : Nat) : Int) := by
  rw [wrap_id (x := 10 * (v : Int)) (by omega) (by omega), wrap_id (by omega) (by omega)]
  omega
theorem rd_l0_tot (w x : ByteArray) (hx : x.size ≤ 6) : ∀ (n i v : Nat), i + n = x.size → v < 10 ^ i → ∃ r, Evn (fun k => spec_l1Read.l0 k w x (v : Int) (i : Int)) r := by
  intro n
  induction n with
  | zero =>
    intro i v hi hv
    have h1 : ¬ (i : Int) < (x.size : Int) := by omega
    have hv2 := pow10_le (show i ≤ 6 by omega)
    by_cases h2 : (x.size : Int) < (w.size : Int)
    · have hw : wrap64 (-(v : Int)) = -(v : Int) := wrap_id (by omega) (by omega)
      obtain ⟨r, hr⟩ := rd_end w (-(v : Int)) (by omega) (by omega)
      refine ⟨r, Evn.step ?_⟩
      simp only [spec_l1Read.l0, if_neg h1, if_pos h2, hw]
      exact hr
    · obtain ⟨r, hr⟩ := rd_end w (v : Int) (by omega) (by omega)
      refine ⟨r, Evn.step ?_⟩
      simp only [spec_l1Read.l0, if_neg h1, if_neg h2]
      exact hr
  | succ n ih =>
    intro i v hi hv
    obtain ⟨b, hb, hd⟩ := bt_at x i (by omega)
    have h1 : (i : Int) < (x.size : Int) := by omega
    have h2 : 0 ≤ (i : Int) := by omega
    have hv2 := pow10_le (show i ≤ 6 by omega)
    by_cases h3 : (b.toNat : Int) < 48
    · refine ⟨(0, false), Evn.step ?_⟩
      simp only [spec_l1Read.l0, if_pos h1, if_pos h2, hb, if_pos h3]
      exact Evn.done _
    · by_cases h4 : (b.toNat : Int) > 57
      · refine ⟨(0, false), Evn.step ?_⟩
        simp only [spec_l1Read.l0, if_pos h1, if_pos h2, hb, if_neg h3, if_pos h4]
        exact Evn.done _
      · obtain ⟨r, hr⟩ := ih (i + 1) (10 * v + (b.toNat - 48)) (by omega) (by rw [Nat.pow_succ]; omega)
        refine ⟨r, Evn.step ?_⟩
        simp only [spec_l1Read.l0, if_pos h1, if_pos h2, hb, if_neg h3, if_neg h4, dig_int v b (by omega) (by omega) (by omega), wrap_succ (show i < 4611686018427387904 by omega)]
        exact hr
theorem rd_l0_val (w x : ByteArray) (hx : x.size ≤ 6) (hw : ¬ (x.size : Int) < (w.size : Int)) (r : Int × Bool) : ∀ (n i v : Nat), i + n = x.size → v < 10 ^ i → digL (x.data.toList.drop i) →
    Evn (fun k => (spec_l1Num.f k (decV v (x.data.toList.drop i) : Nat)).bind fun t130 => (if t130.toList = w.toList then (some (((decV v (x.data.toList.drop i) : Nat) : Int), true)) else (some ((0 : Int), false)))) r →
    Evn (fun k => spec_l1Read.l0 k w x (v : Int) (i : Int)) r := by
  intro n
  induction n with
  | zero =>
    intro i v hi hv hdg he
    have h1 : ¬ (i : Int) < (x.size : Int) := by omega
    refine Evn.step ?_
    simp only [spec_l1Read.l0, if_neg h1, if_neg hw]
    have hd : x.data.toList.drop i = [] := List.drop_eq_nil_of_le (by rw [size_data]; omega)
    rw [hd] at he
    exact he
  | succ n ih =>
    intro i v hi hv hdg he
    obtain ⟨b, hb, hd⟩ := bt_at x i (by omega)
    have h1 : (i : Int) < (x.size : Int) := by omega
    have h2 : 0 ≤ (i : Int) := by omega
    have hv2 := pow10_le (show i ≤ 6 by omega)
    rw [hd] at hdg he
    have hb2 := hdg b List.mem_cons_self
    have h3 : ¬ (b.toNat : Int) < 48 := by omega
    have h4 : ¬ (b.toNat : Int) > 57 := by omega
    have hr := ih (i + 1) (10 * v + (b.toNat - 48)) (by omega) (by rw [Nat.pow_succ]; omega) (fun c hc => hdg c (List.mem_cons_of_mem _ hc)) he
    refine Evn.step ?_
    simp only [spec_l1Read.l0, if_pos h1, if_pos h2, hb, if_neg h3, if_neg h4, dig_int v b (by omega) (by omega) (by omega), wrap_succ (show i < 4611686018427387904 by omega)]
    exact hr
theorem rd_j1_tot (w x : ByteArray) : ∃ r, Evn (fun k => spec_l1Read.j1 k w x) r := by
  by_cases h : 1 ≤ (x.size : Int) ∧ (x.size : Int) ≤ 6
  · obtain ⟨r, hr⟩ := rd_l0_tot w x (by omega) x.size 0 0 (by omega) (by decide)
    refine ⟨r, Evn.step ?_⟩
    simp only [spec_l1Read.j1, sp_l1In, decide_eq_true h, Option.bind_some, if_true]
    exact hr
  · refine ⟨(0, false), Evn.step ?_⟩
    simp only [spec_l1Read.j1, sp_l1In, decide_eq_false h, Option.bind_some, Bool.false_eq_true, if_false]
    exact Evn.done _
theorem rd_j0_tot (w x : ByteArray) (b : Bool) (hx : 1 ≤ x.size ∨ b = false) : ∃ r, Evn (fun k => spec_l1Read.j0 k w x b) r := by
  cases b with
  | true =>
    obtain ⟨r, hr⟩ := rd_j1_tot w (x.extract 1 x.size)
    refine ⟨r, Evn.step ?_⟩
    have h : 1 ≤ (x.size : Int) := by
      rcases hx with h | h
      · omega
      · cases h
    simp only [spec_l1Read.j0, if_true, if_pos h]
    exact hr
  | false =>
    obtain ⟨r, hr⟩ := rd_j1_tot w x
    refine ⟨r, Evn.step ?_⟩
    simp only [spec_l1Read.j0, Bool.false_eq_true, if_false]
    exact hr
theorem sp_l1Read_tot (w : ByteArray) : ∃ r, Evn (fun k => spec_l1Read.f k w) r := by
  unfold spec_l1Read.f
  by_cases h : (w.size : Int) > 1
  · have h2 : 0 < (w.size : Int) := by omega
    obtain ⟨r, hr⟩ := rd_j0_tot w w (bt w 0 == 45) (.inl (by omega))
    refine ⟨r, ?_⟩
    simp only [if_pos h, if_pos h2]
    exact hr
  · obtain ⟨r, hr⟩ := rd_j0_tot w w false (.inr rfl)
    refine ⟨r, ?_⟩
    simp only [if_neg h]
    exact hr
theorem sp_l1Read_num (n : Nat) (hn : n < 1000000) : Evn (fun k => spec_l1Read.f k (numT n)) ((n : Int), true) := by
  obtain ⟨g1, g2, g3⟩ := numT_digits n
  have hz := numT_size 5 n (by have : (10 : Nat) ^ (5 + 1) = 1000000 := rfl; omega)
  have hj1 : Evn (fun k => spec_l1Read.j1 k (numT n) (numT n)) ((n : Int), true) := by
    refine Evn.step ?_
    have h : 1 ≤ ((numT n).size : Int) ∧ ((numT n).size : Int) ≤ 6 := by omega
    simp only [spec_l1Read.j1, sp_l1In, decide_eq_true h, Option.bind_some, if_true]
    refine rd_l0_val (numT n) (numT n) (by omega) (by omega) _ (numT n).size 0 0 (by omega) (by decide) (by rw [List.drop_zero]; exact g1) ?_
    rw [List.drop_zero, g2]
    refine Evn.bind (sp_l1Num n hn) ?_
    simp only [if_true]
    exact Evn.done _
  have hj0 : Evn (fun k => spec_l1Read.j0 k (numT n) (numT n) false) ((n : Int), true) := by
    refine Evn.step ?_
    simp only [spec_l1Read.j0, Bool.false_eq_true, if_false]
    exact hj1
  unfold spec_l1Read.f
  obtain ⟨b, hb, hd⟩ := bt_at (numT n) 0 (by omega)
  have hb2 := g1 b (by rw [← List.drop_zero (l := (numT n).data.toList), hd]; exact List.mem_cons_self)
  have hb0 : bt (numT n) 0 = (b.toNat : Int) := hb
  have hne : ((b.toNat : Int) == 45) = false := beq_eq_false_iff_ne.2 (by omega)
  refine Evn.ite (fun _ => ?_) (fun _ => hj0)
  refine Evn.pos (by omega) ?_
  rw [hb0, hne]
  exact hj0

/-- What a text's reading is: the lead whose text it is, or nothing. -/
def leadRead (s : ByteArray) (r : Int × Int × Int × Int × Int × Bool) : Prop :=
  (r = (0, 0, 0, 0, 0, false) ∨ ∃ a b c d e : Nat, okL5 a b c d e = true ∧ s = leadT a b c d e ∧ r = ((a : Int), (b : Int), (c : Int), (d : Int), (e : Int), true))
  ∧ ∀ a b c d e : Nat, okL5 a b c d e = true → s = leadT a b c d e → r = ((a : Int), (b : Int), (c : Int), (d : Int), (e : Int), true)
theorem leadRead_uniq {s : ByteArray} {r r' : Int × Int × Int × Int × Int × Bool} (h : leadRead s r) (h' : leadRead s r') : r = r' := by
  rcases h.1 with e | ⟨a, b, c, d, e, h1, h2, h3⟩
  · rcases h'.1 with e' | ⟨a, b, c, d, x, h1, h2, h3⟩
    · rw [e, e']
    · rw [h3, h.2 a b c d x h1 h2]
  · rw [h3, h'.2 a b c d e h1 h2]
theorem okL5_nat {a b c d e : Int} (h : okL5 a b c d e = true) : ∃ a' b' c' d' e' : Nat, a = a' ∧ b = b' ∧ c = c' ∧ d = d' ∧ e = e' ∧ 1 ≤ a' ∧ a' ≤ 99 ∧ b' ≤ 7 ∧ 1 ≤ c' ∧ c' ≤ 9 ∧ 1 ≤ d' ∧ d' ≤ 9 ∧ e' ≤ 3 := by
  simp only [okL5, Bool.and_eq_true, decide_eq_true_eq] at h
  exact ⟨a.toNat, b.toNat, c.toNat, d.toNat, e.toNat, by omega, by omega, by omega, by omega, by omega, by omega, by omega, by omega, by omega, by omega, by omega, by omega, by omega⟩
theorem stW_no (e : Nat) (h : e ≤ 3) : (32 : UInt8) ∉ (stW e).data.toList := by
  have h2 : e = 0 ∨ e = 1 ∨ e = 2 ∨ e = 3 := by omega
  rcases h2 with rfl | rfl | rfl | rfl <;> decide
/-- A lead's words. -/
def leadW (a b c d e : Int) : List ByteArray := [⟨#[108, 101, 97, 100]⟩, numT a, ⟨#[97, 116]⟩, numT b ++ (⟨#[58]⟩ : ByteArray), ⟨#[115, 105, 122, 101]⟩, numT c, ⟨#[101, 97, 115, 101]⟩, numT d, stW e]
theorem leadT_eq (a b c d e : Int) : leadT a b c d e = (⟨#[108, 101, 97, 100]⟩ : ByteArray) ++ ((⟨#[32]⟩ : ByteArray) ++ (numT a ++ ((⟨#[32]⟩ : ByteArray) ++ ((⟨#[97, 116]⟩ : ByteArray) ++ ((⟨#[32]⟩ : ByteArray) ++ ((numT b ++ (⟨#[58]⟩ : ByteArray)) ++ ((⟨#[32]⟩ : ByteArray) ++ ((⟨#[115, 105, 122, 101]⟩ : ByteArray) ++ ((⟨#[32]⟩ : ByteArray) ++ (numT c ++ ((⟨#[32]⟩ : ByteArray) ++ ((⟨#[101, 97, 115, 101]⟩ : ByteArray) ++ ((⟨#[32]⟩ : ByteArray) ++ (numT d ++ ((⟨#[32]⟩ : ByteArray) ++ stW e))))))))))))))) := by
  unfold leadT
  apply dataExt
  simp
theorem lead_words (a b c d e : Nat) (he : e ≤ 3) : wordsB 32 (leadT a b c d e) = leadW a b c d e := by
  have hn : ∀ n : Nat, (32 : UInt8) ∉ (numT n).data.toList := fun n => numT_no 32 (by decide) n
  have hb : (32 : UInt8) ∉ (numT b ++ (⟨#[58]⟩ : ByteArray)).data.toList := by
    have := hn b
    simp only [ByteArray.data_append, Array.toList_append, List.mem_append]
    rintro (h | h)
    · exact this h
    · revert h; decide
  rw [leadT_eq, wordsB_app 32 _ _ (by decide), wordsB_app 32 _ _ (hn a), wordsB_app 32 _ _ (by decide), wordsB_app 32 _ _ hb, wordsB_app 32 _ _ (by decide), wordsB_app 32 _ _ (hn c), wordsB_app 32 _ _ (by decide), wordsB_app 32 _ _ (hn d), wordsB_one 32 _ (stW_no e he)]
  rfl
theorem stW_inj {e e' : Nat} (h : e ≤ 3) (h' : e' ≤ 3) (he : stW e = stW e') : e = e' := by
  have h2 : e = 0 ∨ e = 1 ∨ e = 2 ∨ e = 3 := by omega
  have h3 : e' = 0 ∨ e' = 1 ∨ e' = 2 ∨ e' = 3 := by omega
  have he2 : (stW e).data.toList = (stW e').data.toList := by rw [he]
  rcases h2 with rfl | rfl | rfl | rfl <;> rcases h3 with rfl | rfl | rfl | rfl <;> first | rfl | (exfalso; revert he2; decide)
theorem leadT_state (a b c d : Nat) {e e' : Nat} (h : e ≤ 3) (h' : e' ≤ 3) (he : leadT a b c d e = leadT a b c d e') : e = e' := by
  have := lead_words a b c d e h
  rw [he, lead_words a b c d e' h'] at this
  simp only [leadW, List.cons.injEq] at this
  exact stW_inj h h' this.2.2.2.2.2.2.2.2.1.symm
theorem leadT_size (a b c d e : Nat) (ha : a ≤ 99) (hb : b ≤ 7) (hc : c ≤ 9) (hd : d ≤ 9) (he : e ≤ 3) : (leadT a b c d e).size ≤ 50 := by
  have za := numT_size 1 a (by have : (10 : Nat) ^ (1 + 1) = 100 := rfl; omega)
  have zb := numT_size 0 b (by have : (10 : Nat) ^ (0 + 1) = 10 := rfl; omega)
  have zc := numT_size 0 c (by have : (10 : Nat) ^ (0 + 1) = 10 := rfl; omega)
  have zd := numT_size 0 d (by have : (10 : Nat) ^ (0 + 1) = 10 := rfl; omega)
  have ze := stW_size e (by omega) (by omega)
  unfold leadT
  simp only [ByteArray.size_append, sz1, sz4, sz5, sz6, sz7]
  omega
theorem sp_ParseLead_l0 (s : ByteArray) (a b c d : Int) : ∀ (n i : Nat) (z : Int), i + n = 4 → ∃ r, Evn (fun k => spec_ParseLead.l0 k s (i : Int) a b c d z) r
    ∧ (r = (0, 0, 0, 0, 0, false) ∨ ∃ e : Nat, okL5 a b c d e = true ∧ s = leadT a b c d e ∧ r = (a, b, c, d, (e : Int), true))
    ∧ ((∃ e : Nat, i ≤ e ∧ okL5 a b c d e = true ∧ s = leadT a b c d e) → r.2.2.2.2.2 = true) := by
  intro n
  induction n with
  | zero =>
    intro i z hi
    refine ⟨(0, 0, 0, 0, 0, false), Evn.step ?_, .inl rfl, ?_⟩
    · have h1 : ¬ (i : Int) < 4 := by omega
      simp only [spec_ParseLead.l0, if_neg h1]
      exact Evn.done _
    · rintro ⟨e, h1, h2, _⟩
      obtain ⟨_, _, _, _, e', _, _, _, _, h3, h4⟩ := okL5_nat h2
      omega
  | succ n ih =>
    intro i z hi
    obtain ⟨r, hr, hr1, hr2⟩ := ih (i + 1) (i : Int) (by omega)
    have h1 : (i : Int) < 4 := by omega
    have hw := wrap_succ (show i < 4611686018427387904 by omega)
    by_cases hok : okL5 a b c d (i : Int) = true
    · obtain ⟨a', b', c', d', e', rfl, rfl, rfl, rfl, he', hb⟩ := okL5_nat hok
      have ht := sp_l18Text a' b' c' d' (i : Int) (by omega) (by omega) (by omega) (by omega) (by omega) (by omega)
      by_cases hs : (leadT a' b' c' d' (i : Int)).toList = s.toList
      · have hse := byteL_eq hs
        refine ⟨((a' : Int), (b' : Int), (c' : Int), (d' : Int), (i : Int), true), Evn.step ?_, .inr ⟨i, hok, hse.symm, rfl⟩, fun _ => rfl⟩
        simp only [spec_ParseLead.l0, if_pos h1, sp_l18One5, hok, Option.bind_some, if_true]
        refine Evn.bind ht ?_
        simp only [if_pos hs]
        exact Evn.done _
      · refine ⟨r, Evn.step ?_, hr1, ?_⟩
        · simp only [spec_ParseLead.l0, if_pos h1, sp_l18One5, hok, Option.bind_some, if_true]
          refine Evn.bind ht ?_
          simp only [if_neg hs, hw]
          exact hr
        · rintro ⟨e, g1, g2, g3⟩
          refine hr2 ⟨e, ?_, g2, g3⟩
          rcases Nat.lt_or_ge i e with h | h
          · exact h
          · obtain rfl : e = i := by omega
            exact absurd (by rw [g3]) hs
    · refine ⟨r, Evn.step ?_, hr1, ?_⟩
      · simp only [spec_ParseLead.l0, if_pos h1, sp_l18One5, Option.bind_some, if_neg hok, hw]
        exact hr
      · rintro ⟨e, g1, g2, g3⟩
        refine hr2 ⟨e, ?_, g2, g3⟩
        rcases Nat.lt_or_ge i e with h | h
        · exact h
        · obtain rfl : e = i := by omega
          exact absurd g2 hok
theorem sp_ParseLead_j0t (s : ByteArray) (ws : List ByteArray) : Evn (fun k => spec_ParseLead.j0 k s ws true) (0, 0, 0, 0, 0, false) := by
  refine Evn.step ?_
  simp only [spec_ParseLead.j0, if_true]
  exact Evn.done _
theorem lead_key (s : ByteArray) (a b c d e : Nat) (h : okL5 a b c d e = true) (h2 : s = leadT a b c d e) : wordsB 32 s = leadW a b c d e ∧ s.size ≤ 50 := by
  obtain ⟨a', b', c', d', e', ha, hb, hc, hd, he, h3⟩ := okL5_nat h
  subst h2
  exact ⟨lead_words a b c d e (by omega), leadT_size a b c d e (by omega) (by omega) (by omega) (by omega) (by omega)⟩
theorem leadRead_zero (s : ByteArray) (h : ∀ a b c d e : Nat, okL5 a b c d e = true → s = leadT a b c d e → False) : leadRead s (0, 0, 0, 0, 0, false) := ⟨.inl rfl, fun a b c d e h1 h2 => (h a b c d e h1 h2).elim⟩
theorem sp_ParseLead (s : ByteArray) (hs : s.size ≤ 1048576) : ∃ r, Evn (fun k => spec_ParseLead.f k s) r ∧ leadRead s r := by
  have hsp := sp_l1Split s 32 (by omega) 32 rfl
  have key := lead_key s
  have hz := wordsB_size 32 s
  generalize wordsB 32 s = ws at hsp key hz
  unfold spec_ParseLead.f
  by_cases h1 : (s.size : Int) > 50
  · refine ⟨(0, 0, 0, 0, 0, false), Evn.bind hsp ?_, leadRead_zero s fun a b c d e g1 g2 => by have := (key a b c d e g1 g2).2; omega⟩
    simp only [if_pos h1]
    exact sp_ParseLead_j0t _ _
  · by_cases h2 : (ws.length : Int) = 9
    · have h3 : 3 < (ws.length : Int) := by omega
      by_cases h4 : ((rdOf ByteArray.empty ws 3).size : Int) < 2
      · refine ⟨(0, 0, 0, 0, 0, false), Evn.bind hsp ?_, leadRead_zero s fun a b c d e g1 g2 => ?_⟩
        · simp only [if_neg h1, if_pos h2, if_pos h3, decide_eq_true h4]
          exact sp_ParseLead_j0t _ _
        · have e := (key a b c d e g1 g2).1
          rw [e] at h4
          have h5 : ((numT b ++ (⟨#[58]⟩ : ByteArray)).size : Int) < 2 := h4
          have := (numT_digits b).2.2
          rw [ByteArray.size_append, sz1] at h5
          omega
      · obtain ⟨m, hm⟩ : ∃ m : Nat, (rdOf ByteArray.empty ws 3).size = m + 1 := ⟨(rdOf ByteArray.empty ws 3).size - 1, by omega⟩
        obtain ⟨r1, hr1⟩ := sp_l1Read_tot (rdOf ByteArray.empty ws 1)
        obtain ⟨r2, hr2⟩ := sp_l1Read_tot ((rdOf ByteArray.empty ws 3).extract 0 m)
        obtain ⟨r3, hr3⟩ := sp_l1Read_tot (rdOf ByteArray.empty ws 5)
        obtain ⟨r4, hr4⟩ := sp_l1Read_tot (rdOf ByteArray.empty ws 7)
        obtain ⟨r, hr, hra, hrb⟩ := sp_ParseLead_l0 s r1.1 r2.1 r3.1 r4.1 4 0 0 (by omega)
        have w1 : 1 < (ws.length : Int) := by omega
        have w5 : 5 < (ws.length : Int) := by omega
        have w7 : 7 < (ws.length : Int) := by omega
        have m0 : 0 ≤ (m : Int) := by omega
        have m1 : (m : Int) ≤ ((m + 1 : Nat) : Int) := by omega
        have hmb : m < 4611686018427387904 := by
          have := hz _ (rdOf_mem ws 3 (by omega))
          have hm' : (rdOf ByteArray.empty ws ((3 : Nat) : Int)).size = m + 1 := hm
          omega
        refine ⟨r, Evn.bind hsp ?_, ?_, ?_⟩
        · simp only [if_neg h1, if_pos h2, if_pos h3, decide_eq_false h4]
          refine Evn.step ?_
          simp only [spec_ParseLead.j0, Bool.false_eq_true, if_false, if_pos w1]
          refine Evn.bind hr1 ?_
          simp only [if_pos h3, hm, wrap_pred hmb, if_pos m0, if_pos m1, Int.toNat_natCast]
          refine Evn.bind hr2 ?_
          simp only [if_pos w5]
          refine Evn.bind hr3 ?_
          simp only [if_pos w7]
          refine Evn.bind hr4 ?_
          exact hr
        · rcases hra with h | ⟨e, g1, g2, g3⟩
          · exact .inl h
          · obtain ⟨a', b', c', d', e', ha, hb, hc, hd, he, _⟩ := okL5_nat g1
            rw [ha, hb, hc, hd] at g1 g2 g3
            exact .inr ⟨a', b', c', d', e, g1, g2, g3⟩
        · intro a b c d e g1 g2
          obtain ⟨a', b', c', d', e', ha, hb, hc, hd, he, h6⟩ := okL5_nat g1
          have ew := (key a b c d e g1 g2).1
          rw [ew] at hr1 hr2 hr3 hr4 hm
          have hm2 : (numT b ++ (⟨#[58]⟩ : ByteArray)).size = m + 1 := hm
          rw [ByteArray.size_append, sz1] at hm2
          have hx : (rdOf ByteArray.empty (leadW a b c d e) 3).extract 0 m = numT b := by
            show (numT b ++ (⟨#[58]⟩ : ByteArray)).extract 0 m = numT b
            rw [show m = (numT b).size by omega, cut_last]
          rw [hx] at hr2
          obtain rfl := hr1.uniq (sp_l1Read_num a (by omega))
          obtain rfl := hr2.uniq (sp_l1Read_num b (by omega))
          obtain rfl := hr3.uniq (sp_l1Read_num c (by omega))
          obtain rfl := hr4.uniq (sp_l1Read_num d (by omega))
          have ht := hrb ⟨e, Nat.zero_le _, g1, g2⟩
          rcases hra with h | ⟨x, p1, p2, p3⟩
          · rw [h] at ht
            cases ht
          · obtain ⟨_, _, _, _, x', _, _, _, _, hx', h7⟩ := okL5_nat p1
            obtain rfl := leadT_state a b c d (by omega) (by omega) (p2.symm.trans g2)
            exact p3
    · refine ⟨(0, 0, 0, 0, 0, false), Evn.bind hsp ?_, leadRead_zero s fun a b c d e g1 g2 => by rw [(key a b c d e g1 g2).1] at h2; exact h2 rfl⟩
      simp only [if_neg h1, if_neg h2]
      exact sp_ParseLead_j0t _ _

theorem sp_l18Good_l0 (xs : List S26) (hx : xs.length ≤ 1048576) : ∀ (d i : Nat), i + d = xs.length → Evn (fun k => spec_l18Good.l0 k xs (i : Int)) (goodLead xs d i) := by
  intro d
  induction d with
  | zero =>
    intro i h
    refine Evn.step ?_
    have h1 : ¬ (i : Int) < (xs.length : Int) := by omega
    simp only [spec_l18Good.l0, if_neg h1, goodLead]
    refine (Evn.done _).eq_ ?_
    simp only [decide_eq_decide]
    omega
  | succ d ih =>
    intro i h
    refine Evn.step ?_
    have h1 : (i : Int) < (xs.length : Int) := by omega
    have h2 : 0 ≤ (i : Int) := by omega
    have hih := ih (i + 1) (by omega)
    simp only [spec_l18Good.l0, if_pos h1, if_pos h2, sp_l18One, Option.bind_some, wrap_succ (show i < 4611686018427387904 by omega), rd_T26, Int.toNat_natCast, goodLead]
    refine Evn.ite (fun c1 => ?_) (fun c1 => (Evn.done _).eq_ (by simp only [Bool.eq_false_iff.mpr c1, Bool.false_and]))
    simp only [c1, Bool.true_and]
    rcases Nat.eq_zero_or_pos i with h0 | h0
    · subst h0
      have h3 : ¬ ((0 : Nat) : Int) > 0 := by omega
      simp only [if_neg h3, decide_true, Bool.true_or, Bool.true_and]
      exact hih
    · obtain ⟨j, rfl⟩ : ∃ j, i = j + 1 := ⟨i - 1, by omega⟩
      have h3 : ((j + 1 : Nat) : Int) > 0 := by omega
      have h4 : 0 ≤ (j : Int) := by omega
      have h5 : (j : Int) < (xs.length : Int) := by omega
      simp only [if_pos h3, wrap_pred (show j < 4611686018427387904 by omega), if_pos h4, if_pos h5, Int.toNat_natCast, Nat.add_sub_cancel]
      refine Evn.ite (fun c3 => (Evn.done _).eq_ ?_) (fun c3 => hih.eq_ ?_)
      · have e1 : decide ((xs.getD j z26).f0 < (xs.getD (j + 1) z26).f0) = false := decide_eq_false (by omega)
        simp only [e1, show decide (j + 1 = 0) = false from by simp, Bool.or_false, Bool.false_and]
      · have e1 : decide ((xs.getD j z26).f0 < (xs.getD (j + 1) z26).f0) = true := decide_eq_true (by omega)
        simp only [e1, Bool.or_true, Bool.true_and]
theorem sp_l18Good (xs : List S26) (hx : xs.length ≤ 1048576) : Evn (fun k => spec_l18Good.f k xs) (goodLeads xs) := sp_l18Good_l0 xs hx xs.length 0 (by omega)

def atL (xs : List S26) (s : Int) : List Int × Bool := if goodLeads xs = true ∧ (0 ≤ s ∧ s ≤ 7) then ((xs.filter (fun x => decide (x.f1 = s))).map (fun x => x.f0), true) else ([], false)
theorem sp_LeadsAt_l0 (s : Int) (xs : List S26) (hx : xs.length ≤ 4194304) : ∀ (d i : Nat) (zs : List Int), i + d = xs.length → zs.length ≤ i → Evn (fun k => spec_LeadsAt.l0 k xs s zs (i : Int)) (zs ++ ((xs.drop i).filter (fun x => decide (x.f1 = s))).map (fun x => x.f0), true) := by
  intro d
  induction d with
  | zero =>
    intro i zs h hz
    refine Evn.step ?_
    have h1 : ¬ (i : Int) < (xs.length : Int) := by omega
    simp only [spec_LeadsAt.l0, if_neg h1]
    rw [List.drop_eq_nil_of_le (by omega)]
    simpa using Evn.done _
  | succ d ih =>
    intro i zs h hz
    refine Evn.step ?_
    have h1 : (i : Int) < (xs.length : Int) := by omega
    have h2 : 0 ≤ (i : Int) := by omega
    rw [getD_drop xs i z26 (by omega), List.filter_cons]
    simp only [spec_LeadsAt.l0, if_pos h1, if_pos h2, rd_T26, Int.toNat_natCast, wrap_succ (show i < 4611686018427387904 by omega)]
    refine Evn.ite (fun c => Evn.ite (fun _ => (ih (i + 1) _ (by omega) (by simp; omega)).eq_ ?_) (fun c' => absurd (by omega) c')) (fun c => (ih (i + 1) _ (by omega) (by omega)).eq_ ?_)
    · rw [if_pos (by simpa using c)]
      simp
    · rw [if_neg (by simpa using c)]
theorem sp_LeadsAt (xs : List S26) (s : Int) (hx : xs.length ≤ 1048576) : Evn (fun k => spec_LeadsAt.f k xs s) (atL xs s) := by
  unfold spec_LeadsAt.f
  simp only [Option.bind_some]
  refine Evn.bind (sp_l18Good xs hx) ?_
  unfold atL
  refine Evn.ite (fun c => ?_) (fun c => ?_)
  · simp only [sp_l4Station, Option.bind_some]
    refine Evn.step ?_
    simp only [spec_LeadsAt.j0]
    refine Evn.ite (fun c1 => ?_) (fun c1 => ?_)
    · rw [if_neg (by intro h; have h2 := decide_eq_true h.2; rw [h2] at c1; cases c1)]
      exact Evn.done _
    · rw [if_pos ⟨c, by simpa using c1⟩]
      have h := sp_LeadsAt_l0 s xs (by omega) xs.length 0 [] (by omega) (by simp)
      simpa using h
  · refine Evn.step ?_
    simp only [spec_LeadsAt.j0, if_true]
    rw [if_neg (fun h => c h.1)]
    exact Evn.done _

def cntL (xs : List S26) : Nat → Nat → List Int → List Int
  | 0, _, ys => ys
  | d + 1, i, ys => cntL xs d (i + 1) (ys.set (xs.getD i z26).f4.toNat (wrap64 (ys.getD (xs.getD i z26).f4.toNat 0 + 1)))
theorem cntL_len (xs : List S26) : ∀ (d i : Nat) (ys : List Int), (cntL xs d i ys).length = ys.length := by
  intro d
  induction d with
  | zero => intro i ys; rfl
  | succ d ih => intro i ys; rw [cntL, ih]; simp
def statesL (xs : List S26) : List Int × Bool := if goodLeads xs = true then (cntL xs xs.length 0 (List.replicate 4 0), true) else ([], false)
theorem lead_in {xs : List S26} (h : goodLeads xs = true) (j : Nat) (hj : j < xs.length) : (1 ≤ (xs.getD j z26).f0 ∧ (xs.getD j z26).f0 ≤ 99) ∧ (0 ≤ (xs.getD j z26).f1 ∧ (xs.getD j z26).f1 ≤ 7) ∧ (1 ≤ (xs.getD j z26).f2 ∧ (xs.getD j z26).f2 ≤ 9) ∧ (1 ≤ (xs.getD j z26).f3 ∧ (xs.getD j z26).f3 ≤ 9) ∧ (0 ≤ (xs.getD j z26).f4 ∧ (xs.getD j z26).f4 ≤ 3) := by
  have h1 := goodLeads_ok h j hj
  simp only [okLead, Bool.and_eq_true, decide_eq_true_eq] at h1
  exact h1
theorem sp_StatesOf_l0 (xs : List S26) (hx : xs.length ≤ 1048576) (hg : goodLeads xs = true) : ∀ (d i : Nat) (ys : List Int), i + d = xs.length → ys.length = 4 → Evn (fun k => spec_StatesOf.l0 k xs ys (i : Int)) (cntL xs d i ys, true) := by
  intro d
  induction d with
  | zero =>
    intro i ys h hy
    refine Evn.step ?_
    have h1 : ¬ (i : Int) < (xs.length : Int) := by omega
    simp only [spec_StatesOf.l0, if_neg h1, cntL]
    exact Evn.done _
  | succ d ih =>
    intro i ys h hy
    refine Evn.step ?_
    have h1 : (i : Int) < (xs.length : Int) := by omega
    have h2 : 0 ≤ (i : Int) := by omega
    obtain ⟨_, _, _, _, g1, g2⟩ := lead_in hg i (by omega)
    have h3 : (xs.getD i z26).f4 < (ys.length : Int) := by omega
    simp only [spec_StatesOf.l0, if_pos h1, if_pos h2, rd_T26, rd, Int.toNat_natCast, if_pos g1, if_pos h3, wrap_succ (show i < 4611686018427387904 by omega), cntL]
    exact ih (i + 1) _ (by omega) (by simpa using hy)
theorem sp_StatesOf (xs : List S26) (hx : xs.length ≤ 1048576) : Evn (fun k => spec_StatesOf.f k xs) (statesL xs) := by
  unfold spec_StatesOf.f
  refine Evn.bind (sp_l18Good xs hx) ?_
  unfold statesL
  refine Evn.ite (fun c => ?_) (fun c => ?_)
  · rw [if_pos c]
    exact sp_StatesOf_l0 xs hx c xs.length 0 _ (by omega) (by simp)
  · rw [if_neg c]
    exact Evn.done _

/-! The draws: a cursor over bytes. -/
def Byts (l : List Int) : Prop := ∀ x ∈ l, 0 ≤ x ∧ x ≤ 255
theorem bits255 (x : Int) : 0 ≤ Go.bits .and .u64 x 255 ∧ Go.bits .and .u64 x 255 ≤ 255 := by
  have h : (BitVec.ofInt 64 x &&& BitVec.ofInt 64 255).toNat ≤ 255 := by rw [BitVec.toNat_and]; exact Nat.le_trans Nat.and_le_right (by decide)
  have e : Go.bits .and .u64 x 255 = IntKind.u64.wrap ((BitVec.ofInt 64 x &&& BitVec.ofInt 64 255).toNat : Int) := rfl
  rw [e, IntKind.wrap_u64]
  omega
theorem Byts.at_ {l : List Int} (h : Byts l) (p : Int) : 0 ≤ rd l p ∧ rd l p ≤ 255 := by
  unfold rd
  by_cases g : p.toNat < l.length
  · rw [List.getD_eq_getElem?_getD, List.getElem?_eq_getElem g, Option.getD_some]
    exact h _ (List.getElem_mem g)
  · rw [List.getD_eq_getElem?_getD, List.getElem?_eq_none (by omega), Option.getD_none]
    omega
theorem dw_next {l : List Int} {p : Int} (hl : Byts l) (h0 : 0 ≤ p) (h1 : p ≤ 2000000000) (s : Int) : ∃ r, spec_l1Cur_next.f l p s = some r ∧ 0 ≤ r.1 ∧ r.1 ≤ 255 ∧ r.2.1 = p + 1 := by
  have hr := hl.at_ p
  have e : wrap64 (rd l p) = rd l p := wrap_id (by omega) (by omega)
  have e2 : wrap64 (p + 1) = p + 1 := wrap_id (by omega) (by omega)
  unfold spec_l1Cur_next.f
  rw [e, e2]
  split
  · (try rw [if_pos h0])
    split
    · exact ⟨_, rfl, hr.1, hr.2, rfl⟩
    · refine ⟨_, rfl, ?_, ?_, rfl⟩
      · dsimp only; rw [wrap_id (by have := bits255; exact Int.le_trans (by decide) (this _).1) (Int.le_trans (bits255 _).2 (by decide))]; exact (bits255 _).1
      · dsimp only; rw [wrap_id (by have := bits255; exact Int.le_trans (by decide) (this _).1) (Int.le_trans (bits255 _).2 (by decide))]; exact (bits255 _).2
  · split
    · exact ⟨_, rfl, by dsimp only; omega, by dsimp only; omega, rfl⟩
    · refine ⟨_, rfl, ?_, ?_, rfl⟩
      · dsimp only; rw [wrap_id (by have := bits255; exact Int.le_trans (by decide) (this _).1) (Int.le_trans (bits255 _).2 (by decide))]; exact (bits255 _).1
      · dsimp only; rw [wrap_id (by have := bits255; exact Int.le_trans (by decide) (this _).1) (Int.le_trans (bits255 _).2 (by decide))]; exact (bits255 _).2

theorem tmod_in {x n : Int} (hx : 0 ≤ x) (hn : 1 < n) : 0 ≤ Int.tmod x n ∧ Int.tmod x n < n := by
  rw [Int.tmod_eq_emod_of_nonneg hx]
  exact ⟨Int.emod_nonneg _ (by omega), Int.emod_lt_of_pos _ (by omega)⟩
theorem dw_pick {l : List Int} {p : Int} (hl : Byts l) (h0 : 0 ≤ p) (h1 : p ≤ 1000000000) (s n : Int) : ∃ r, spec_l1Cur_pick.f l p s n = some r ∧ 0 ≤ r.1 ∧ (r.1 < n ∨ r.1 = 0) ∧ p ≤ r.2.1 ∧ r.2.1 ≤ p + 2 := by
  unfold spec_l1Cur_pick.f
  by_cases c : n ≤ 1
  · rw [if_pos c]
    exact ⟨_, rfl, by dsimp only; omega, Or.inr rfl, Int.le_refl _, by dsimp only; omega⟩
  · rw [if_neg c]
    obtain ⟨a, ha, a0, a1, a2⟩ := dw_next hl h0 (by omega) s
    rw [ha, Option.bind_some]
    split
    · obtain ⟨b, hb, b0, b1, b2⟩ := dw_next hl (p := a.2.1) (by omega) (by omega) a.2.2
      rw [hb, Option.bind_some, if_neg (by omega)]
      have t := tmod_in (x := wrap64 (wrap64 (a.1 * 256) + b.1)) (n := n) (by rw [wrap_id (x := a.1 * 256) (by omega) (by omega), wrap_id (by omega) (by omega)]; omega) (by omega)
      exact ⟨_, rfl, t.1, Or.inl t.2, by dsimp only; omega, by dsimp only; omega⟩
    · rw [if_neg (by omega)]
      have t := tmod_in (x := a.1) (n := n) a0 (by omega)
      exact ⟨_, rfl, t.1, Or.inl t.2, by dsimp only; omega, by dsimp only; omega⟩

theorem rd_mem {L : List Int} {i : Int} (h0 : 0 ≤ i) (h1 : i < L.length) : rd L i ∈ L := by
  unfold rd
  rw [List.getD_eq_getElem?_getD, List.getElem?_eq_getElem (by omega), Option.getD_some]
  exact List.getElem_mem _
theorem dw_among {l : List Int} {p : Int} (hl : Byts l) (h0 : 0 ≤ p) (h1 : p ≤ 1000000000) (s : Int) (L : List Int) (hL : 0 < L.length) : ∃ r, spec_l1Cur_among.f l p s L = some r ∧ r.1 ∈ L ∧ p ≤ r.2.1 ∧ r.2.1 ≤ p + 2 := by
  unfold spec_l1Cur_among.f
  obtain ⟨a, ha, a0, a1, a2, a3⟩ := dw_pick hl h0 h1 s (L.length : Int)
  have a4 : a.1 < (L.length : Int) := by omega
  rw [ha, Option.bind_some, if_pos a0, if_pos a4]
  exact ⟨_, rfl, rd_mem a0 a4, a2, a3⟩

theorem dw_lead {l : List Int} {p : Int} (hl : Byts l) (h0 : 0 ≤ p) (h1 : p ≤ 900000000) (s i : Int) : ∃ r, spec_l1Cur_lead.f l p s i = some r ∧ p ≤ r.2.2.2.2.2.1 ∧ r.2.2.2.2.2.1 ≤ p + 14 := by
  unfold spec_l1Cur_lead.f
  obtain ⟨a, ha, a0, a1, a2, a3⟩ := dw_pick hl h0 (by omega) s 8
  obtain ⟨b, hb, _, b2, b3⟩ := dw_among hl (p := a.2.1) (by omega) (by omega) a.2.2 [1, 3, 3, 5, 9] (by simp)
  obtain ⟨c, hc, _, c2, c3⟩ := dw_among hl (p := b.2.1) (by omega) (by omega) b.2.2 [1, 3, 3, 6, 9] (by simp)
  obtain ⟨d, hd, _, d2, d3⟩ := dw_among hl (p := c.2.1) (by omega) (by omega) c.2.2 [0, 0, 0, 1, 2, 3] (by simp)
  obtain ⟨u, hu, u0, u1, u2, u3⟩ := dw_pick hl (p := d.2.1) (by omega) (by omega) d.2.2 60
  simp only [ha, hb, hc, hd, hu, Option.bind_some]
  by_cases q0 : u.1 = 0
  · obtain ⟨v, hv, _, v2, v3⟩ := dw_among hl (p := u.2.1) (by omega) (by omega) u.2.2 [0, 99, 100] (by simp)
    simp only [if_pos q0, hv, Option.bind_some]
    exact ⟨_, rfl, by dsimp only; omega, by dsimp only; omega⟩
  by_cases q1 : u.1 = 1
  · obtain ⟨v, hv, _, v2, v3⟩ := dw_among hl (p := u.2.1) (by omega) (by omega) u.2.2 [-1, 8] (by simp)
    simp only [if_neg q0, if_pos q1, hv, Option.bind_some]
    exact ⟨_, rfl, by dsimp only; omega, by dsimp only; omega⟩
  by_cases q2 : u.1 = 2
  · obtain ⟨v, hv, _, v2, v3⟩ := dw_among hl (p := u.2.1) (by omega) (by omega) u.2.2 [0, 10] (by simp)
    simp only [if_neg q0, if_neg q1, if_pos q2, hv, Option.bind_some]
    exact ⟨_, rfl, by dsimp only; omega, by dsimp only; omega⟩
  by_cases q3 : u.1 = 3
  · obtain ⟨v, hv, _, v2, v3⟩ := dw_among hl (p := u.2.1) (by omega) (by omega) u.2.2 [0, 10] (by simp)
    simp only [if_neg q0, if_neg q1, if_neg q2, if_pos q3, hv, Option.bind_some]
    exact ⟨_, rfl, by dsimp only; omega, by dsimp only; omega⟩
  by_cases q4 : u.1 = 4
  · obtain ⟨v, hv, _, v2, v3⟩ := dw_among hl (p := u.2.1) (by omega) (by omega) u.2.2 [-1, 4] (by simp)
    simp only [if_neg q0, if_neg q1, if_neg q2, if_neg q3, if_pos q4, hv, Option.bind_some]
    exact ⟨_, rfl, by dsimp only; omega, by dsimp only; omega⟩
  simp only [if_neg q0, if_neg q1, if_neg q2, if_neg q3, if_neg q4]
  exact ⟨_, rfl, by dsimp only; omega, by dsimp only; omega⟩

theorem dw_DrawIsLead {l : List Int} (hl : Byts l) : ∃ r, spec_DrawIsLead.f l = some r := by
  unfold spec_DrawIsLead.f
  obtain ⟨u, hu, _, u2, u3⟩ := dw_among hl (p := 0) (by decide) (by decide) 0 [1, 12, 99] (by simp)
  obtain ⟨a, ha, a2, a3⟩ := dw_lead hl (p := u.2.1) (by omega) (by omega) u.2.2 u.1
  simp only [hu, ha, Option.bind_some]
  exact ⟨_, rfl⟩

theorem dw_DrawLeadText {l : List Int} (hl : Byts l) : ∃ r, spec_DrawLeadText.f l = some r := by
  unfold spec_DrawLeadText.f
  obtain ⟨a, ha⟩ := dw_DrawIsLead hl
  simp only [ha, Option.bind_some]
  exact ⟨_, rfl⟩

theorem dw_one {l : List Int} {p : Int} (hl : Byts l) (h0 : 0 ≤ p) (h1 : p ≤ 1000000000) (s n : Int) : ∃ r, spec_l1Cur_one.f l p s n = some r ∧ p ≤ r.2.1 ∧ r.2.1 ≤ p + 2 := by
  unfold spec_l1Cur_one.f
  obtain ⟨a, ha, a0, a1, a2, a3⟩ := dw_pick hl h0 h1 s n
  rw [ha, Option.bind_some]
  exact ⟨_, rfl, a2, a3⟩

theorem extract_le (b : ByteArray) (i j : Nat) : (b.extract i j).size ≤ b.size := by rw [ByteArray.size_extract]; omega
theorem toList_pos {t : ByteArray} (h : ¬ t.toList = ([] : List UInt8)) : 0 < t.size := by
  rw [toList_data] at h
  have h1 := size_data t
  cases e : t.data.toList with
  | nil => exact absurd e h
  | cons x xs => rw [e] at h1; simp only [List.length_cons] at h1; omega
theorem dw_spoilt {l : List Int} {p : Int} (hl : Byts l) (h0 : 0 ≤ p) (h1 : p ≤ 900000000) (s : Int) (t w : ByteArray) (ht : t.size ≤ 1000) (hw : 0 < w.size) (hw2 : w.size ≤ 1000) : ∃ r, spec_l1Cur_spoilt.f l p s t w = some r ∧ r.1.size ≤ 3000 := by
  unfold spec_l1Cur_spoilt.f
  by_cases c : t.toList = ([] : List UInt8)
  · rw [if_pos c, if_pos (by omega)]
    refine ⟨_, rfl, ?_⟩
    have := extract_le w 0 1
    dsimp only
    omega
  · have hn := toList_pos c
    obtain ⟨i, hi, i0, i1, i2, i3⟩ := dw_pick hl h0 (by omega) s (t.size : Int)
    obtain ⟨j, hj, j0, j1, j2, j3⟩ := dw_pick hl (p := i.2.1) (by omega) (by omega) i.2.2 (w.size : Int)
    obtain ⟨q, hq, q0, q1, q2, q3⟩ := dw_pick hl (p := j.2.1) (by omega) (by omega) j.2.2 3
    have i4 : i.1 ≤ (t.size : Int) := by omega
    have j4 : j.1 ≤ (w.size : Int) := by omega
    have e1 : 1 ≤ ((w.extract (j.1 : Int).toNat w.size).size : Int) := by rw [ByteArray.size_extract]; omega
    have ew : wrap64 (i.1 + 1) = i.1 + 1 := wrap_id (by omega) (by omega)
    have i5 : 0 ≤ i.1 + 1 := by omega
    have i6 : i.1 + 1 ≤ (t.size : Int) := by omega
    have z1 := extract_le t 0 i.1.toNat
    have z2 := extract_le t i.1.toNat t.size
    have z3 := extract_le t (i.1 + 1).toNat t.size
    have z4 := extract_le (w.extract j.1.toNat w.size) 0 1
    have z5 := extract_le w j.1.toNat w.size
    simp only [if_neg c, hi, hj, hq, Option.bind_some, if_pos j0, if_pos j4, if_pos e1, if_pos i0, if_pos i4, ew, if_pos i5, if_pos i6]
    by_cases c1 : q.1 = 0
    · rw [if_pos c1, if_pos (by omega), if_pos (by rw [ByteArray.size_append]; omega)]
      refine ⟨_, rfl, ?_⟩
      dsimp only
      rw [ByteArray.size_append, ByteArray.size_append]
      omega
    · by_cases c2 : q.1 = 1
      · rw [if_neg c1, if_pos c2, if_pos (by omega), if_pos (by rw [ByteArray.size_append]; omega)]
        refine ⟨_, rfl, ?_⟩
        dsimp only
        rw [ByteArray.size_append, ByteArray.size_append]
        omega
      · rw [if_neg c1, if_neg c2, if_pos (by omega)]
        refine ⟨_, rfl, ?_⟩
        dsimp only
        rw [ByteArray.size_append]
        omega

theorem txtL_size (a b c d e : Int) : (txtL a b c d e).1.size ≤ 1000 := by
  unfold txtL
  by_cases g : okL5 a b c d e = true
  · rw [if_pos g]
    obtain ⟨a', b', c', d', e', x1, x2, x3, x4, x5, y1, y2, y3, y4, y5, y6, y7, y8⟩ := okL5_nat g
    rw [x1, x2, x3, x4, x5]
    have := leadT_size a' b' c' d' e' (by omega) (by omega) (by omega) (by omega) (by omega)
    dsimp only
    omega
  · rw [if_neg g]; decide
theorem dw_DrawParseLead {l : List Int} (hl : Byts l) : ∃ r, Evn (fun k => spec_DrawParseLead.f k l) r ∧ r.size ≤ 3000 := by
  unfold spec_DrawParseLead.f
  obtain ⟨u, hu, _, u2, u3⟩ := dw_among hl (p := 0) (by decide) (by decide) 0 [1, 12, 99] (by simp)
  obtain ⟨a, ha, a2, a3⟩ := dw_lead hl (p := u.2.1) (by omega) (by omega) u.2.2 u.1
  have ht := sp_LeadText a.1 a.2.1 a.2.2.1 a.2.2.2.1 a.2.2.2.2.1
  have hz := txtL_size a.1 a.2.1 a.2.2.1 a.2.2.2.1 a.2.2.2.2.1
  obtain ⟨o, ho, o2, o3⟩ := dw_one hl (p := a.2.2.2.2.2.1) (by omega) (by omega) a.2.2.2.2.2.2 4
  simp only [hu, ha, Option.bind_some]
  by_cases c : o.1 = true
  · obtain ⟨r, hr, h3⟩ := dw_spoilt hl (p := o.2.1) (by omega) (by omega) o.2.2 (txtL a.1 a.2.1 a.2.2.1 a.2.2.2.1 a.2.2.2.2.1).1 ⟨#[48, 32, 58, 100, 101, 49]⟩ hz (by decide) (by decide)
    refine ⟨r.1, Evn.bind ht ?_, h3⟩
    simp only [ho, Option.bind_some, if_pos c, hr]
    exact Evn.done _
  · refine ⟨_, Evn.bind ht ?_, Nat.le_trans hz (by decide)⟩
    simp only [ho, Option.bind_some, if_neg c]
    exact Evn.done _

theorem dw_leads_l1 {l : List Int} (hl : Byts l) : ∀ (D : Nat) (zs : List S26) (i p s : Int), zs.length + D = 13 → 0 ≤ p → p ≤ 900000000 - 2 * (D : Int) → ∃ r, Evn (fun k => spec_l1Cur_leads.l1 k zs i l p s) r ∧ r.1.length ≤ 13 ∧ p ≤ r.2.1 ∧ r.2.1 ≤ p + 2 + 2 * (D : Int) := by
  intro D
  induction D with
  | zero =>
    intro zs i p s hz h0 h1
    obtain ⟨u, hu, u0, u1, u2, u3⟩ := dw_pick hl h0 (by omega) s 2
    have c1 : ¬ (zs.length : Int) < wrap64 (12 + u.1) := by rw [wrap_id (by omega) (by omega)]; omega
    refine ⟨(zs, u.2.1, u.2.2), Evn.step ?_, by dsimp only; omega, by dsimp only; omega, by dsimp only; omega⟩
    simp only [spec_l1Cur_leads.l1, hu, Option.bind_some, if_neg c1]
    exact Evn.done _
  | succ D ih =>
    intro zs i p s hz h0 h1
    obtain ⟨u, hu, u0, u1, u2, u3⟩ := dw_pick hl h0 (by omega) s 2
    by_cases c1 : (zs.length : Int) < wrap64 (12 + u.1)
    · have hq : zs.length < 3518437208883 := by omega
      obtain ⟨r, hr, r1, r2, r3⟩ := ih (zs ++ [⟨wrap64 (i + 1), 0, 2, 2, 0⟩]) (wrap64 (i + 1)) u.2.1 u.2.2 (by rw [List.length_append, List.length_singleton]; omega) (by omega) (by omega)
      refine ⟨r, Evn.step ?_, r1, by omega, by omega⟩
      simp only [spec_l1Cur_leads.l1, hu, Option.bind_some, if_pos c1, if_pos hq]
      exact hr
    · refine ⟨(zs, u.2.1, u.2.2), Evn.step ?_, by dsimp only; omega, by dsimp only; omega, by dsimp only; omega⟩
      simp only [spec_l1Cur_leads.l1, hu, Option.bind_some, if_neg c1]
      exact Evn.done _
theorem dw_leads_l0 {l : List Int} (hl : Byts l) : ∀ (D : Nat) (zs : List S26) (i p s : Int), zs.length + D ≤ 9 → 0 ≤ p → p ≤ 800000000 - 20 * (D : Int) → ∃ r, Evn (fun k => spec_l1Cur_leads.l0 k zs i (D : Int) l p s) r ∧ r.1.length ≤ 13 ∧ p ≤ r.2.1 ∧ r.2.1 ≤ p + 40 + 20 * (D : Int) := by
  intro D
  induction D with
  | zero =>
    intro zs i p s hz h0 h1
    have hn : ¬ ((0 : Nat) : Int) > 0 := by decide
    obtain ⟨u, hu, u2, u3⟩ := dw_one hl h0 (by omega) s 24
    by_cases c1 : u.1 = true
    · obtain ⟨r, hr, r1, r2, r3⟩ := dw_leads_l1 hl (13 - zs.length) zs i u.2.1 u.2.2 (by omega) (by omega) (by omega)
      refine ⟨r, Evn.step ?_, r1, by omega, by omega⟩
      simp only [spec_l1Cur_leads.l0, if_neg hn, hu, Option.bind_some, if_pos c1]
      exact hr
    · refine ⟨(zs, u.2.1, u.2.2), Evn.step ?_, by dsimp only; omega, by dsimp only; omega, by dsimp only; omega⟩
      simp only [spec_l1Cur_leads.l0, if_neg hn, hu, Option.bind_some, if_neg c1]
      exact Evn.done _
  | succ D ih =>
    intro zs i p s hz h0 h1
    obtain ⟨a, ha, a0, a1, a2, a3⟩ := dw_pick hl h0 (by omega) s 3
    obtain ⟨b, hb, b0, b1, b2, b3⟩ := dw_pick hl (p := a.2.1) (by omega) (by omega) a.2.2 80
    obtain ⟨u, hu, u2, u3⟩ := dw_lead hl (p := b.2.1) (by omega) (by omega) b.2.2 (wrap64 ((wrap64 ((wrap64 (i + 1)) + a.1)) - (wrap64 (Int.tdiv b.1 79))))
    have hp : ((D + 1 : Nat) : Int) > 0 := by omega
    have hw : wrap64 (((D + 1 : Nat) : Int) - 1) = (D : Int) := wrap_pred (by omega)
    obtain ⟨r, hr, r1, r2, r3⟩ := ih (zs ++ [⟨u.1, u.2.1, u.2.2.1, u.2.2.2.1, u.2.2.2.2.1⟩]) (wrap64 ((wrap64 ((wrap64 (i + 1)) + a.1)) - (wrap64 (Int.tdiv b.1 79)))) u.2.2.2.2.2.1 u.2.2.2.2.2.2 (by rw [List.length_append, List.length_singleton]; omega) (by omega) (by omega)
    refine ⟨r, Evn.step ?_, r1, by omega, by omega⟩
    have hq : zs.length < 3518437208883 := by omega
    simp only [spec_l1Cur_leads.l0, if_pos hp, hw]
    refine Evn.bind (Evn.of fun _ => ha) (Evn.bind (Evn.of fun _ => hb) (Evn.bind (Evn.of fun _ => hu) ?_))
    simp only [if_pos hq]
    exact hr
theorem dw_leads {l : List Int} {p : Int} (hl : Byts l) (h0 : 0 ≤ p) (h1 : p ≤ 700000000) (s : Int) : ∃ r, Evn (fun k => spec_l1Cur_leads.f k l p s) r ∧ r.1.length ≤ 13 ∧ p ≤ r.2.1 ∧ r.2.1 ≤ p + 400 := by
  unfold spec_l1Cur_leads.f
  obtain ⟨a, ha, a0, a1, a2, a3⟩ := dw_pick hl h0 (by omega) s 9
  obtain ⟨D, hD⟩ : ∃ D : Nat, a.1 = D := ⟨a.1.toNat, by omega⟩
  obtain ⟨r, hr, r1, r2, r3⟩ := dw_leads_l0 hl D [] 0 a.2.1 a.2.2 (by simp only [List.length_nil]; omega) (by omega) (by omega)
  refine ⟨r, ?_, r1, by omega, by omega⟩
  simp only [ha, Option.bind_some, hD]
  exact hr

theorem dw_DrawLeadsAt {l : List Int} (hl : Byts l) : ∃ r, Evn (fun k => spec_DrawLeadsAt.f k l) r ∧ r.1.length ≤ 13 := by
  unfold spec_DrawLeadsAt.f
  obtain ⟨a, ha, a1, a2, a3⟩ := dw_leads hl (p := 0) (by decide) (by decide) 0
  obtain ⟨b, hb, b0, b1, b2, b3⟩ := dw_pick hl (p := a.2.1) (by omega) (by omega) a.2.2 10
  obtain ⟨c, hc, c0, c1, c2, c3⟩ := dw_pick hl (p := b.2.1) (by omega) (by omega) b.2.2 20
  exact ⟨_, Evn.bind ha (Evn.bind (Evn.of fun _ => hb) (Evn.bind (Evn.of fun _ => hc) (Evn.done _))), a1⟩

theorem im_within (x y z : Int) : impl_within.f x y z = some (decide (y ≤ x ∧ x ≤ z)) := by
  unfold impl_within.f
  by_cases h : x ≥ y <;> simp [h] <;> omega

theorem im_isStation (x : Int) : impl_isStation.f x = some (decide (0 ≤ x ∧ x ≤ 7)) := by
  simp only [impl_isStation.f, im_within, Option.bind_some]

theorem im_IsLead (x : S26) : impl_IsLead.f x.f0 x.f1 x.f2 x.f3 x.f4 = some (okLead x) := by
  simp only [impl_IsLead.f, impl_isId.f, im_isStation, impl_isGrade.f, impl_isState.f, im_within, Option.bind_some, ite_and, okLead]
theorem im_IsLead5 (a b c d e : Int) : impl_IsLead.f a b c d e = some (okL5 a b c d e) := by
  simp only [impl_IsLead.f, impl_isId.f, im_isStation, impl_isGrade.f, impl_isState.f, im_within, Option.bind_some, ite_and, okL5]

theorem im_decimal (n : Nat) (h : n < 1000000) : impl_decimal.f (n : Int) = some (numT n) := by
  unfold impl_decimal.f
  rw [if_pos ⟨by omega, by omega⟩]
  rfl

theorem im_leadText (a b c d : Nat) (e : Int) (ha : a < 1000) (hb : b < 1000) (hc : c < 1000) (hd : d < 1000) (h0 : 0 ≤ e) (h4 : e < 4) : impl_leadText.f a b c d e = some (leadT a b c d e) := by
  have za := numT_size 2 a ha
  have zb := numT_size 2 b hb
  have zc := numT_size 2 c hc
  have zd := numT_size 2 d hd
  have ze := stW_size e h0 h4
  unfold impl_leadText.f leadT
  rw [if_pos ⟨h0, h4⟩]
  simp only [im_decimal a (by omega), im_decimal b (by omega), im_decimal c (by omega), im_decimal d (by omega), Option.bind_some]
  repeat rw [if_pos (by first | omega | (simp only [ByteArray.size_append, sz1, sz4, sz5, sz6, sz7]; omega))]

theorem im_LeadText (a b c d e : Int) : impl_LeadText.f a b c d e = some (txtL a b c d e) := by
  unfold impl_LeadText.f txtL
  simp only [im_IsLead5, Option.bind_some]
  by_cases h : okL5 a b c d e = true
  · obtain ⟨h1, h2, h3, h4, h5⟩ := okL5_rng h
    obtain ⟨a, rfl⟩ : ∃ n : Nat, a = n := ⟨a.toNat, by omega⟩
    obtain ⟨b, rfl⟩ : ∃ n : Nat, b = n := ⟨b.toNat, by omega⟩
    obtain ⟨c, rfl⟩ : ∃ n : Nat, c = n := ⟨c.toNat, by omega⟩
    obtain ⟨d, rfl⟩ : ∃ n : Nat, d = n := ⟨d.toNat, by omega⟩
    simp only [if_pos h, im_leadText a b c d e (by omega) (by omega) (by omega) (by omega) (by omega) (by omega), Option.bind_some]
  · simp only [if_neg h]

theorem im_Split (c : UInt8) (s : ByteArray) (h : s.size < 4294967281) : strings_Split.f s ⟨#[c]⟩ = some (wordsB c s) := by
  unfold strings_Split.f
  rw [if_pos ⟨h, Nat.le_refl 1⟩, splitB_words]

theorem parse_dec : ∀ (l : List UInt8) (acc : Nat), digL l → decV acc l < 1844674407370955161 → Lib.parseUint10 acc l = .ok (decV acc l)
  | [], _, _, _ => rfl
  | b :: l, acc, hd, hv => by
    have hb := hd b List.mem_cons_self
    have hge := decV_ge l (10 * acc + (b.toNat - 48))
    have hv2 : decV (10 * acc + (b.toNat - 48)) l < 1844674407370955161 := hv
    have e : acc * 10 + (b.toNat - 48) = 10 * acc + (b.toNat - 48) := by omega
    unfold Lib.parseUint10
    rw [if_pos hb, if_neg (by omega), if_neg (by omega), e]
    exact parse_dec l _ (fun c hc => hd c (List.mem_cons_of_mem _ hc)) hv2
theorem atoiAll_num (n : Nat) (hn : n < 1000000) : Lib.atoiAll (numT n).data.toList = .ok (n : Int) := by
  obtain ⟨g1, g2, g3⟩ := numT_digits n
  rw [← size_data] at g3
  generalize hl : (numT n).data.toList = l at g1 g2 g3
  cases l with
  | nil => simp at g3
  | cons b l =>
    have hb := g1 b List.mem_cons_self
    have hp : Lib.parseUint10 0 (b :: l) = .ok n := by
      rw [parse_dec (b :: l) 0 g1 (by omega), g2]
    unfold Lib.atoiAll
    have h4 : ¬ b.toNat = 43 := by omega
    have h2 : ¬ b.toNat = 45 := by omega
    have h3 : ¬ 9223372036854775808 ≤ n := by omega
    have h5 : ¬ ((b :: l : List UInt8) = []) := List.cons_ne_nil _ _
    simp only [h4, h2, or_self, if_false, Lib.parseMag, if_neg h5, hp, not_false_eq_true, true_and, false_and, if_neg h3]
theorem parI_num (n : Nat) (hn : n < 1000000) : parI (numT n) = ((n : Int), true) := by
  unfold parI
  rw [atoiAll_num n hn]
  have h : (⟨(Lib.itoa (n : Int)).toArray⟩ : ByteArray).toList = (numT n).toList := rfl
  have h2 : -999999 ≤ (n : Int) ∧ (n : Int) ≤ 999999 := by omega
  simp only [if_pos h, if_pos h2]
theorem numT_inj {m n : Nat} (hm : m < 1000000) (hn : n < 1000000) (h : numT m = numT n) : m = n := by
  have h1 := parI_num m hm
  rw [h, parI_num n hn] at h1
  have := (Prod.mk.inj h1).1
  omega

def pInts (l : List ByteArray) : List Int × Bool := if (l.all fun w => (parI w).2) = true then (l.map fun w => (parI w).1, true) else ([], false)
theorem im_parseInts_l0 (l : List ByteArray) (hs : ∀ w ∈ l, w.size ≤ 281474976710656) (hl : l.length ≤ 1000) : ∀ (n i : Nat) (acc : List Int), i + n = l.length → acc.length = i →
    Evn (fun k => impl_parseInts.l0 k acc l (l.length : Int) (i : Int)) (if ((l.drop i).all fun w => (parI w).2) = true then (acc ++ (l.drop i).map fun w => (parI w).1, true) else ([], false)) := by
  intro n
  induction n with
  | zero =>
    intro i acc hi ha
    refine Evn.step ?_
    have h1 : ¬ (i : Int) < (l.length : Int) := by omega
    simp only [impl_parseInts.l0, if_neg h1]
    rw [List.drop_eq_nil_of_le (by omega)]
    simp only [List.all_nil, if_true, List.map_nil, List.append_nil]
    exact Evn.done _
  | succ n ih =>
    intro i acc hi ha
    refine Evn.step ?_
    have h1 : (i : Int) < (l.length : Int) := by omega
    have h2 : 0 ≤ (i : Int) := by omega
    have h3 : acc.length < 17592186044416 := by omega
    have hd := getD_drop l i ByteArray.empty (by omega)
    have hm : l.getD i ByteArray.empty ∈ l := by
      rw [List.getD, List.getElem?_eq_getElem (show i < l.length by omega), Option.getD_some]
      exact List.getElem_mem _
    have hp : impl_ParseInt.f (l.getD i ByteArray.empty) = some (parI (l.getD i ByteArray.empty)) := by
      unfold impl_ParseInt.f
      rw [if_pos (hs _ hm)]
    simp only [impl_parseInts.l0, if_pos h1, if_pos h2, rdOf, Int.toNat_natCast, hp, Option.bind_some, if_pos h3, wrap_succ (show i < 4611686018427387904 by omega)]
    refine Evn.ite (fun hc => ?_) (fun hc => ?_)
    · refine (ih (i + 1) _ (by omega) (by rw [List.length_append, ha]; rfl)).eq_ ?_
      rw [hd, List.all_cons, hc, Bool.true_and, List.map_cons]
      simp
    · refine (Evn.done _).eq_ ?_
      rw [hd, List.all_cons, Bool.eq_false_iff.2 hc, Bool.false_and]
      simp
theorem im_parseInts (l : List ByteArray) (hs : ∀ w ∈ l, w.size ≤ 281474976710656) (hl : l.length ≤ 1000) : Evn (fun k => impl_parseInts.f k l) (pInts l) := by
  refine (im_parseInts_l0 l hs hl l.length 0 [] (by omega) rfl).eq_ ?_
  simp only [List.drop_zero, List.nil_append]
  rfl

theorem li_TrimSuffix (s : ByteArray) (hs : s.size ≤ 4294967296) : strings_TrimSuffix.f s (⟨#[58]⟩ : ByteArray) = some (if (s.size : Int) ≥ 1 ∧ (s.extract (s.size - 1) s.size).toList = (⟨#[58]⟩ : ByteArray).toList then s.extract 0 (s.size - 1) else s) := by
  have e1 : (((⟨#[58]⟩ : ByteArray).size : Nat) : Int) = 1 := rfl
  by_cases h : (s.size : Int) ≥ 1
  · obtain ⟨m, hm⟩ : ∃ m : Nat, s.size = m + 1 := ⟨s.size - 1, by omega⟩
    have hw : wrap64 ((s.size : Int) - 1) = (m : Int) := by rw [wrap_id (by omega) (by omega)]; omega
    have h0 : 0 ≤ (m : Int) := by omega
    have h1 : (m : Int) ≤ (s.size : Int) := by omega
    have h2 : s.size - 1 = m := by omega
    simp only [strings_TrimSuffix.f, stringslite_TrimSuffix.f, stringslite_HasSuffix.f, e1, if_pos h, hw, if_pos h0, if_pos h1, Int.toNat_natCast, Option.bind_some, h2]
    by_cases c : (s.extract m s.size).toList = (⟨#[58]⟩ : ByteArray).toList
    · rw [if_pos (beq_iff_eq.2 c), if_pos ⟨h, c⟩]
      rfl
    · rw [if_neg (fun x => c (beq_iff_eq.1 x)), if_neg (fun x => c x.2)]
      rfl
  · have hn : ¬ ((s.size : Int) ≥ 1 ∧ (s.extract (s.size - 1) s.size).toList = (⟨#[58]⟩ : ByteArray).toList) := fun x => h x.1
    simp only [strings_TrimSuffix.f, stringslite_TrimSuffix.f, stringslite_HasSuffix.f, e1, if_neg h, Option.bind_some, Bool.false_eq_true, if_false, if_neg hn]
theorem trim_colon (w : ByteArray) : (if ((w ++ (⟨#[58]⟩ : ByteArray)).size : Int) ≥ 1 ∧ ((w ++ (⟨#[58]⟩ : ByteArray)).extract ((w ++ (⟨#[58]⟩ : ByteArray)).size - 1) (w ++ (⟨#[58]⟩ : ByteArray)).size).toList = (⟨#[58]⟩ : ByteArray).toList then (w ++ (⟨#[58]⟩ : ByteArray)).extract 0 ((w ++ (⟨#[58]⟩ : ByteArray)).size - 1) else (w ++ (⟨#[58]⟩ : ByteArray))) = w := by
  have hz : (w ++ (⟨#[58]⟩ : ByteArray)).size = w.size + 1 := ByteArray.size_append
  rw [hz, Nat.add_sub_cancel, get_last, cut_last, if_pos ⟨by omega, rfl⟩]

def ixW (ws : List ByteArray) (x : ByteArray) : Nat → Nat → Int
  | 0, _ => -1
  | d + 1, i => if x.toList = (ws.getD i ByteArray.empty).toList then (i : Int) else ixW ws x d (i + 1)
theorem li_IndexS_l0 (ws : List ByteArray) (x : ByteArray) (hx : ws.length ≤ 4194304) : ∀ (d i k : Nat), i + d = ws.length → d < k → slices_Index_string_string.l0 k ws x (ws.length : Int) (i : Int) = some (ixW ws x d i) := by
  intro d
  induction d with
  | zero =>
    intro i k h hk
    obtain ⟨k, rfl⟩ : ∃ m, k = m + 1 := ⟨k - 1, by omega⟩
    have h1 : ¬ (i : Int) < (ws.length : Int) := by omega
    simp only [slices_Index_string_string.l0, if_neg h1, ixW]
  | succ d ih =>
    intro i k h hk
    obtain ⟨k, rfl⟩ : ∃ m, k = m + 1 := ⟨k - 1, by omega⟩
    have h1 : (i : Int) < (ws.length : Int) := by omega
    have h2 : 0 ≤ (i : Int) := by omega
    simp only [slices_Index_string_string.l0, if_pos h1, if_pos h2, rdOf, Int.toNat_natCast, wrap_succ (show i < 4611686018427387904 by omega), ixW, ih (i + 1) k (by omega) (by omega)]
    split <;> rfl
theorem im_xState (x : ByteArray) : impl_xState.f x = some (ixW stWords x stWords.length 0) :=
  li_IndexS_l0 stWords x (by decide) stWords.length 0 20 (by omega) (by decide)

theorem im_ParseLead_j0t (s : ByteArray) (xs : List Int) (t : Int) : Evn (fun k => impl_ParseLead.j0 k s xs t true) (0, 0, 0, 0, 0, false) := by
  refine Evn.step ?_
  simp only [impl_ParseLead.j0, if_true]
  exact Evn.done _
theorem ixW_stW (e : Nat) (h : e ≤ 3) : ixW stWords (stW e) stWords.length 0 = (e : Int) := by
  have h2 : e = 0 ∨ e = 1 ∨ e = 2 ∨ e = 3 := by omega
  have hne : ∀ i j : Nat, i < 4 → j < 4 → i ≠ j → ¬ (stW i).toList = (stWords.getD j ByteArray.empty).toList := by
    intro i j hi hj hij he
    have e2 := stW_inj (e := i) (e' := j) (by omega) (by omega) (byteL_eq he)
    omega
  have hl : stWords.length = 4 := rfl
  have hs : ∀ i : Nat, (stW (i : Int)).toList = (stWords.getD i ByteArray.empty).toList := fun i => by unfold stW; rw [Int.toNat_natCast]
  rw [hl]
  rcases h2 with rfl | rfl | rfl | rfl
  · unfold ixW; rw [if_pos (hs 0)]
  · unfold ixW; rw [if_neg (hne 1 0 (by omega) (by omega) (by omega))]
    unfold ixW; rw [if_pos (hs 1)]
  · unfold ixW; rw [if_neg (hne 2 0 (by omega) (by omega) (by omega))]
    unfold ixW; rw [if_neg (hne 2 1 (by omega) (by omega) (by omega))]
    unfold ixW; rw [if_pos (hs 2)]
  · unfold ixW; rw [if_neg (hne 3 0 (by omega) (by omega) (by omega))]
    unfold ixW; rw [if_neg (hne 3 1 (by omega) (by omega) (by omega))]
    unfold ixW; rw [if_neg (hne 3 2 (by omega) (by omega) (by omega))]
    unfold ixW; rw [if_pos (hs 3)]
theorem im_ParseLead_j0f (s : ByteArray) (x0 x1 x2 x3 t : Int) : ∃ r, Evn (fun k => impl_ParseLead.j0 k s [x0, x1, x2, x3] t false) r
    ∧ (r = (0, 0, 0, 0, 0, false) ∨ okL5 x0 x1 x2 x3 t = true ∧ s = leadT x0 x1 x2 x3 t ∧ r = (x0, x1, x2, x3, t, true))
    ∧ (okL5 x0 x1 x2 x3 t = true → s = leadT x0 x1 x2 x3 t → r = (x0, x1, x2, x3, t, true)) := by
  have l4 : (([x0, x1, x2, x3] : List Int).length : Int) = 4 := rfl
  have e0 : rd [x0, x1, x2, x3] 0 = x0 := rfl
  have e1 : rd [x0, x1, x2, x3] 1 = x1 := rfl
  have e2 : rd [x0, x1, x2, x3] 2 = x2 := rfl
  have e3 : rd [x0, x1, x2, x3] 3 = x3 := rfl
  have c0 : (0 : Int) < 4 := by decide
  have c1 : (1 : Int) < 4 := by decide
  have c2 : (2 : Int) < 4 := by decide
  have c3 : (3 : Int) < 4 := by decide
  by_cases hok : okL5 x0 x1 x2 x3 t = true
  · obtain ⟨a, b, c, d, e, rfl, rfl, rfl, rfl, rfl, hb⟩ := okL5_nat hok
    have ht := im_leadText a b c d e (by omega) (by omega) (by omega) (by omega) (by omega) (by omega)
    by_cases hs : (leadT a b c d e).toList = s.toList
    · refine ⟨((a : Int), (b : Int), (c : Int), (d : Int), (e : Int), true), Evn.step ?_, .inr ⟨hok, (byteL_eq hs).symm, rfl⟩, fun _ _ => rfl⟩
      simp only [impl_ParseLead.j0, Bool.false_eq_true, if_false, l4, if_pos c0, if_pos c1, if_pos c2, if_pos c3, e0, e1, e2, e3, im_IsLead5, hok, Option.bind_some, if_true, ht, if_pos hs]
      exact Evn.done _
    · refine ⟨(0, 0, 0, 0, 0, false), Evn.step ?_, .inl rfl, fun _ h => absurd (by rw [← h]) hs⟩
      simp only [impl_ParseLead.j0, Bool.false_eq_true, if_false, l4, if_pos c0, if_pos c1, if_pos c2, if_pos c3, e0, e1, e2, e3, im_IsLead5, hok, Option.bind_some, if_true, ht, if_neg hs]
      exact Evn.done _
  · refine ⟨(0, 0, 0, 0, 0, false), Evn.step ?_, .inl rfl, fun h _ => absurd h hok⟩
    simp only [impl_ParseLead.j0, Bool.false_eq_true, if_false, l4, if_pos c0, if_pos c1, if_pos c2, if_pos c3, e0, e1, e2, e3, im_IsLead5, if_neg hok, Option.bind_some]
    exact Evn.done _
def trimC (s : ByteArray) : ByteArray := if (s.size : Int) ≥ 1 ∧ (s.extract (s.size - 1) s.size).toList = (⟨#[58]⟩ : ByteArray).toList then s.extract 0 (s.size - 1) else s
theorem trimC_size (s : ByteArray) : (trimC s).size ≤ s.size := by
  unfold trimC
  split
  · rw [ByteArray.size_extract]
    omega
  · exact Nat.le_refl _
theorem im_ParseLead (s : ByteArray) (hs : s.size ≤ 1048576) : ∃ r, Evn (fun k => impl_ParseLead.f k s) r ∧ leadRead s r := by
  have hsp := im_Split 32 s (by omega)
  have key := lead_key s
  have hz := wordsB_size 32 s
  generalize wordsB 32 s = ws at hsp key hz
  unfold impl_ParseLead.f
  simp only [hsp, Option.bind_some]
  by_cases h2 : (ws.length : Int) = 9
  · have w1 : 1 < (ws.length : Int) := by omega
    have w3 : 3 < (ws.length : Int) := by omega
    have w5 : 5 < (ws.length : Int) := by omega
    have w7 : 7 < (ws.length : Int) := by omega
    have w8 : 8 < (ws.length : Int) := by omega
    have z1 := hz _ (rdOf_mem ws 1 (by omega))
    have z3 := hz _ (rdOf_mem ws 3 (by omega))
    have z5 := hz _ (rdOf_mem ws 5 (by omega))
    have z7 := hz _ (rdOf_mem ws 7 (by omega))
    have ht : strings_TrimSuffix.f (rdOf ByteArray.empty ws 3) (⟨#[58]⟩ : ByteArray) = some (trimC (rdOf ByteArray.empty ws 3)) := li_TrimSuffix _ (Nat.le_trans z3 (by omega))
    have zt := trimC_size (rdOf ByteArray.empty ws 3)
    simp only [if_pos h2, if_pos w1, if_pos w3, ht, if_pos w5, if_pos w7, if_pos w8, im_xState, Option.bind_some]
    have hp := im_parseInts [rdOf ByteArray.empty ws 1, trimC (rdOf ByteArray.empty ws 3), rdOf ByteArray.empty ws 5, rdOf ByteArray.empty ws 7] (by
      intro w hw
      simp only [List.mem_cons, List.not_mem_nil, or_false] at hw
      rcases hw with rfl | rfl | rfl | rfl
      · exact Nat.le_trans z1 (by omega)
      · exact Nat.le_trans zt (Nat.le_trans z3 (by omega))
      · exact Nat.le_trans z5 (by omega)
      · exact Nat.le_trans z7 (by omega)) (by simp)
    have pkey : ∀ a b c d e : Nat, okL5 a b c d e = true → s = leadT a b c d e → pInts [rdOf ByteArray.empty ws 1, trimC (rdOf ByteArray.empty ws 3), rdOf ByteArray.empty ws 5, rdOf ByteArray.empty ws 7] = ([(a : Int), (b : Int), (c : Int), (d : Int)], true) ∧ ixW stWords (rdOf ByteArray.empty ws 8) stWords.length 0 = (e : Int) := by
      intro a b c d e g1 g2
      obtain ⟨_, _, _, _, _, _, _, _, _, _, h6⟩ := okL5_nat g1
      rw [(key a b c d e g1 g2).1]
      have e3 : trimC (rdOf ByteArray.empty (leadW a b c d e) 3) = numT b := trim_colon (numT b)
      have e1 : rdOf ByteArray.empty (leadW a b c d e) 1 = numT a := rfl
      have e5 : rdOf ByteArray.empty (leadW a b c d e) 5 = numT c := rfl
      have e7 : rdOf ByteArray.empty (leadW a b c d e) 7 = numT d := rfl
      have e8 : rdOf ByteArray.empty (leadW a b c d e) 8 = stW e := rfl
      rw [e3, e1, e5, e7, e8]
      refine ⟨?_, ixW_stW e (by omega)⟩
      unfold pInts
      simp only [List.all_cons, List.all_nil, List.map_cons, List.map_nil, parI_num a (by omega), parI_num b (by omega), parI_num c (by omega), parI_num d (by omega), Bool.and_self, if_true]
    by_cases hall : (pInts [rdOf ByteArray.empty ws 1, trimC (rdOf ByteArray.empty ws 3), rdOf ByteArray.empty ws 5, rdOf ByteArray.empty ws 7]).2 = true
    · obtain ⟨x0, x1, x2, x3, hx⟩ : ∃ x0 x1 x2 x3 : Int, pInts [rdOf ByteArray.empty ws 1, trimC (rdOf ByteArray.empty ws 3), rdOf ByteArray.empty ws 5, rdOf ByteArray.empty ws 7] = ([x0, x1, x2, x3], true) := by
        unfold pInts at hall ⊢
        split
        · exact ⟨_, _, _, _, rfl⟩
        · rename_i hn
          rw [if_neg hn] at hall
          cases hall
      rw [hx] at hp pkey
      by_cases hn : ixW stWords (rdOf ByteArray.empty ws 8) stWords.length 0 < 0
      · refine ⟨(0, 0, 0, 0, 0, false), Evn.bind hp ?_, leadRead_zero s fun a b c d e g1 g2 => by have := (pkey a b c d e g1 g2).2; omega⟩
        simp only [if_true, decide_eq_true hn]
        exact im_ParseLead_j0t _ _ _
      · obtain ⟨r, hr, hra, hrb⟩ := im_ParseLead_j0f s x0 x1 x2 x3 (ixW stWords (rdOf ByteArray.empty ws 8) stWords.length 0)
        refine ⟨r, Evn.bind hp ?_, ?_, ?_⟩
        · simp only [if_true, decide_eq_false hn]
          exact hr
        · rcases hra with h | ⟨g1, g2, g3⟩
          · exact .inl h
          · obtain ⟨a', b', c', d', e', ha, hb, hc, hd, he, _⟩ := okL5_nat g1
            rw [ha, hb, hc, hd, he] at g1 g2 g3
            exact .inr ⟨a', b', c', d', e', g1, g2, g3⟩
        · intro a b c d e g1 g2
          obtain ⟨p1, p2⟩ := pkey a b c d e g1 g2
          have p3 := (Prod.mk.inj p1).1
          simp only [List.cons.injEq, and_true] at p3
          obtain ⟨rfl, rfl, rfl, rfl⟩ := p3
          rw [p2] at hrb
          exact hrb g1 g2
    · refine ⟨(0, 0, 0, 0, 0, false), Evn.bind hp ?_, leadRead_zero s fun a b c d e g1 g2 => by rw [(pkey a b c d e g1 g2).1] at hall; exact hall rfl⟩
      simp only [if_neg hall]
      exact im_ParseLead_j0t _ _ _
  · refine ⟨(0, 0, 0, 0, 0, false), ?_, leadRead_zero s fun a b c d e g1 g2 => by rw [(key a b c d e g1 g2).1] at h2; exact h2 rfl⟩
    simp only [if_neg h2]
    exact Evn.done _

theorem im_AreLeads_l0 (xs : List S26) (hx : xs.length ≤ 1048576) : ∀ (d i : Nat), i + d = xs.length → Evn (fun k => impl_AreLeads.l0 k xs xs (xs.length : Int) (i : Int)) (goodLead xs d i) := by
  intro d
  induction d with
  | zero =>
    intro i h
    refine Evn.step ?_
    have h1 : ¬ (i : Int) < (xs.length : Int) := by omega
    simp only [impl_AreLeads.l0, if_neg h1, goodLead]
    refine (Evn.done _).eq_ ?_
    simp only [decide_eq_decide]
    omega
  | succ d ih =>
    intro i h
    refine Evn.step ?_
    have h1 : (i : Int) < (xs.length : Int) := by omega
    have h2 : 0 ≤ (i : Int) := by omega
    have hih := ih (i + 1) (by omega)
    simp only [impl_AreLeads.l0, if_pos h1, if_pos h2, im_IsLead, Option.bind_some, wrap_succ (show i < 4611686018427387904 by omega), rd_T26, Int.toNat_natCast, goodLead]
    refine Evn.ite (fun c1 => ?_) (fun c1 => (Evn.done _).eq_ (by simp only [Bool.eq_false_iff.mpr c1, Bool.false_and]))
    simp only [c1, Bool.true_and]
    rcases Nat.eq_zero_or_pos i with h0 | h0
    · subst h0
      have h3 : ¬ ((0 : Nat) : Int) > 0 := by omega
      simp only [if_neg h3, decide_true, Bool.true_or, Bool.true_and]
      exact hih
    · obtain ⟨j, rfl⟩ : ∃ j, i = j + 1 := ⟨i - 1, by omega⟩
      have h3 : ((j + 1 : Nat) : Int) > 0 := by omega
      have h4 : 0 ≤ (j : Int) := by omega
      have h5 : (j : Int) < (xs.length : Int) := by omega
      simp only [if_pos h3, wrap_pred (show j < 4611686018427387904 by omega), if_pos h4, if_pos h5, Int.toNat_natCast, Nat.add_sub_cancel]
      refine Evn.ite (fun c3 => (Evn.done _).eq_ ?_) (fun c3 => hih.eq_ ?_)
      · have e1 : decide ((xs.getD j z26).f0 < (xs.getD (j + 1) z26).f0) = false := decide_eq_false (by omega)
        simp only [e1, show decide (j + 1 = 0) = false from by simp, Bool.or_false, Bool.false_and]
      · have e1 : decide ((xs.getD j z26).f0 < (xs.getD (j + 1) z26).f0) = true := decide_eq_true (by omega)
        simp only [e1, Bool.or_true, Bool.true_and]
theorem im_AreLeads (xs : List S26) (hx : xs.length ≤ 1048576) : Evn (fun k => impl_AreLeads.f k xs) (goodLeads xs) := im_AreLeads_l0 xs hx xs.length 0 (by omega)

theorem im_LeadsAt_l0 (s : Int) (xs : List S26) (hx : xs.length ≤ 4194304) : ∀ (d i : Nat) (zs : List Int), i + d = xs.length → zs.length ≤ i → Evn (fun k => impl_LeadsAt.l0 k s zs xs (xs.length : Int) (i : Int)) (zs ++ ((xs.drop i).filter (fun x => decide (x.f1 = s))).map (fun x => x.f0), true) := by
  intro d
  induction d with
  | zero =>
    intro i zs h hz
    refine Evn.step ?_
    have h1 : ¬ (i : Int) < (xs.length : Int) := by omega
    simp only [impl_LeadsAt.l0, if_neg h1]
    rw [List.drop_eq_nil_of_le (by omega)]
    simpa using Evn.done _
  | succ d ih =>
    intro i zs h hz
    refine Evn.step ?_
    have h1 : (i : Int) < (xs.length : Int) := by omega
    have h2 : 0 ≤ (i : Int) := by omega
    rw [getD_drop xs i z26 (by omega), List.filter_cons]
    simp only [impl_LeadsAt.l0, if_pos h1, if_pos h2, rd_T26, Int.toNat_natCast, wrap_succ (show i < 4611686018427387904 by omega)]
    refine Evn.ite (fun c => Evn.ite (fun _ => (ih (i + 1) _ (by omega) (by simp; omega)).eq_ ?_) (fun c' => absurd (by omega) c')) (fun c => (ih (i + 1) _ (by omega) (by omega)).eq_ ?_)
    · rw [if_pos (by simpa using c)]
      simp
    · rw [if_neg (by simpa using c)]
theorem im_LeadsAt (xs : List S26) (s : Int) (hx : xs.length ≤ 1048576) : Evn (fun k => impl_LeadsAt.f k xs s) (atL xs s) := by
  unfold impl_LeadsAt.f
  refine Evn.bind (im_AreLeads xs hx) ?_
  unfold atL
  refine Evn.ite (fun c => ?_) (fun c => ?_)
  · simp only [im_isStation, Option.bind_some]
    refine Evn.step ?_
    simp only [impl_LeadsAt.j0]
    refine Evn.ite (fun c1 => ?_) (fun c1 => ?_)
    · rw [if_neg (by intro h; have h2 := decide_eq_true h.2; rw [h2] at c1; cases c1)]
      exact Evn.done _
    · rw [if_pos ⟨c, by simpa using c1⟩]
      have h := im_LeadsAt_l0 s xs (by omega) xs.length 0 [] (by omega) (by simp)
      simpa using h
  · refine Evn.step ?_
    simp only [impl_LeadsAt.j0, if_true]
    rw [if_neg (fun h => c h.1)]
    exact Evn.done _

theorem ev_rInts_l0 (xs ys : List Int) (e : xs = ys) : ∀ (D i : Nat), i + D = xs.length → xs.length ≤ 4611686018427387904 → Evn (fun k => laws_rInts.l0 k xs ys (i : Int)) true := by
  subst e
  intro D
  induction D with
  | zero =>
    intro i h hx
    refine Evn.step ?_
    have h1 : ¬ (i : Int) < (xs.length : Int) := by omega
    simp only [laws_rInts.l0, if_neg h1]
    exact Evn.done _
  | succ D ih =>
    intro i h hx
    refine Evn.step ?_
    have h1 : (i : Int) < (xs.length : Int) := by omega
    have h2 : 0 ≤ (i : Int) := by omega
    simp only [laws_rInts.l0, if_pos h1, if_pos h2, if_true, wrap_succ (show i < 4611686018427387904 by omega)]
    exact ih (i + 1) (by omega) hx
theorem ev_rInts (xs : List Int) (hx : xs.length ≤ 4611686018427387904) : Evn (fun k => laws_rInts.f k xs xs) true := by
  unfold laws_rInts.f
  simp only [if_true]
  exact ev_rInts_l0 xs xs rfl xs.length 0 (by omega) hx

theorem im_StatesOf_l0 (xs : List S26) (hx : xs.length ≤ 1048576) (hg : goodLeads xs = true) : ∀ (d i : Nat) (ys : List Int), i + d = xs.length → ys.length = 4 → Evn (fun k => impl_StatesOf.l0 k ys xs (xs.length : Int) (i : Int)) (cntL xs d i ys, true) := by
  intro d
  induction d with
  | zero =>
    intro i ys h hy
    refine Evn.step ?_
    have h1 : ¬ (i : Int) < (xs.length : Int) := by omega
    simp only [impl_StatesOf.l0, if_neg h1, cntL]
    exact Evn.done _
  | succ d ih =>
    intro i ys h hy
    refine Evn.step ?_
    have h1 : (i : Int) < (xs.length : Int) := by omega
    have h2 : 0 ≤ (i : Int) := by omega
    obtain ⟨_, _, _, _, g1, g2⟩ := lead_in hg i (by omega)
    have h3 : (xs.getD i z26).f4 < (ys.length : Int) := by omega
    simp only [impl_StatesOf.l0, if_pos h1, if_pos h2, rd_T26, rd, Int.toNat_natCast, if_pos g1, if_pos h3, wrap_succ (show i < 4611686018427387904 by omega), cntL]
    exact ih (i + 1) _ (by omega) (by simpa using hy)
theorem im_StatesOf (xs : List S26) (hx : xs.length ≤ 1048576) : Evn (fun k => impl_StatesOf.f k xs) (statesL xs) := by
  unfold impl_StatesOf.f
  refine Evn.bind (im_AreLeads xs hx) ?_
  unfold statesL
  refine Evn.ite (fun c => ?_) (fun c => ?_)
  · rw [if_pos c]
    exact im_StatesOf_l0 xs hx c xs.length 0 _ (by omega) (by simp)
  · rw [if_neg c]
    exact Evn.done _

/-! Every lead is at one station, and has one state. -/
def atN (xs : List S26) (s : Int) : Nat := (xs.filter (fun x => decide (x.f1 = s))).length
def sumAt (xs : List S26) : Nat → Nat
  | 0 => 0
  | i + 1 => sumAt xs i + atN xs (i : Int)
theorem atN_cons (x : S26) (xs : List S26) (s : Int) : atN (x :: xs) s = (if x.f1 = s then 1 else 0) + atN xs s := by
  unfold atN
  rw [List.filter_cons]
  by_cases h : x.f1 = s
  · rw [if_pos (decide_eq_true h), if_pos h, List.length_cons]; omega
  · rw [if_neg (by rw [decide_eq_false h]; decide), if_neg h]; omega
theorem sumAt_cons (x : S26) (xs : List S26) : ∀ i : Nat, 0 ≤ x.f1 → sumAt (x :: xs) i = (if x.f1 < (i : Int) then 1 else 0) + sumAt xs i
  | 0, h => by
    rw [if_neg (by omega)]
    rfl
  | i + 1, h => by
    rw [sumAt, sumAt, sumAt_cons x xs i h, atN_cons]
    by_cases h1 : x.f1 < (i : Int)
    · rw [if_pos h1, if_neg (by omega), if_pos (by omega)]; omega
    · by_cases h2 : x.f1 = (i : Int)
      · rw [if_neg h1, if_pos h2, if_pos (by omega)]; omega
      · rw [if_neg h1, if_neg h2, if_neg (by omega)]; omega
theorem sumAt_all : ∀ xs : List S26, (∀ x ∈ xs, 0 ≤ x.f1 ∧ x.f1 ≤ 7) → sumAt xs 8 = xs.length
  | [], _ => by rfl
  | x :: xs, h => by
    have hx := h x List.mem_cons_self
    rw [sumAt_cons x xs 8 hx.1, sumAt_all xs (fun y hy => h y (List.mem_cons_of_mem _ hy)), if_pos (by omega), List.length_cons]
    omega
theorem sumAt_le (xs : List S26) : ∀ i : Nat, sumAt xs i ≤ i * xs.length
  | 0 => by simp [sumAt]
  | i + 1 => by
    have h1 := sumAt_le xs i
    have h2 : atN xs (i : Int) ≤ xs.length := List.length_filter_le _ _
    rw [sumAt, Nat.succ_mul]
    omega
def sumI : List Int → Int
  | [] => 0
  | x :: xs => x + sumI xs
theorem sumI_set : ∀ (ys : List Int) (i : Nat) (v : Int), i < ys.length → sumI (ys.set i v) = sumI ys - ys.getD i 0 + v
  | [], i, v, h => by simp at h
  | y :: ys, 0, v, _ => by simp only [List.set_cons_zero, sumI, List.getD_cons_zero]; omega
  | y :: ys, i + 1, v, h => by
    simp only [List.set_cons_succ, sumI, List.getD_cons_succ]
    rw [sumI_set ys i v (by simpa using h)]
    omega

theorem ev_rSum_l0 (xs : List Int) (hx : xs.length ≤ 1000) (hb : ∀ y ∈ xs, 0 ≤ y ∧ y ≤ 1000) : ∀ (D i : Nat) (n : Int), i + D = xs.length → 0 ≤ n → n ≤ 1000 * (i : Int) → Evn (fun k => laws_rSum.l0 k xs n (i : Int)) (n + sumI (xs.drop i)) := by
  intro D
  induction D with
  | zero =>
    intro i n h h0 h1
    refine Evn.step ?_
    have c1 : ¬ (i : Int) < (xs.length : Int) := by omega
    simp only [laws_rSum.l0, if_neg c1]
    rw [List.drop_eq_nil_of_le (by omega), sumI, Int.add_zero]
    exact Evn.done _
  | succ D ih =>
    intro i n h h0 h1
    refine Evn.step ?_
    have c1 : (i : Int) < (xs.length : Int) := by omega
    have c2 : 0 ≤ (i : Int) := by omega
    have hm : xs.getD i 0 ∈ xs := by
      rw [List.getD_eq_getElem?_getD, List.getElem?_eq_getElem (by omega)]
      exact List.getElem_mem (by omega)
    have hv := hb _ hm
    have hw : wrap64 (n + xs.getD i 0) = n + xs.getD i 0 := wrap_id (by omega) (by omega)
    have hr := ih (i + 1) (n + xs.getD i 0) (by omega) (by omega) (by omega)
    simp only [laws_rSum.l0, if_pos c1, if_pos c2, rd, Int.toNat_natCast, hw, wrap_succ (show i < 4611686018427387904 by omega)]
    rw [getD_drop xs i 0 (by omega), sumI, ← Int.add_assoc]
    exact hr
theorem ev_rSum (xs : List Int) (hx : xs.length ≤ 1000) (hb : ∀ y ∈ xs, 0 ≤ y ∧ y ≤ 1000) : Evn (fun k => laws_rSum.f k xs) (sumI xs) := by
  unfold laws_rSum.f
  have h := ev_rSum_l0 xs hx hb xs.length 0 0 (by omega) (by omega) (by omega)
  rw [List.drop_zero, Int.zero_add] at h
  exact h

theorem byts_of {l : List Int} (h : ∀ x ∈ l, (Lit.int .u8 x).wf = true) : Byts l := by
  intro x hx
  have h1 := h x hx
  simp [Lit.wf, IntKind.min, IntKind.max, IntKind.signed, IntKind.bits] at h1
  omega

theorem cnt_sum (xs : List S26) (hg : goodLeads xs = true) (hx : xs.length ≤ 12) : ∀ (d i : Nat) (ys : List Int), i + d = xs.length → ys.length = 4 → (∀ y ∈ ys, 0 ≤ y ∧ y ≤ (i : Int)) → sumI (cntL xs d i ys) = sumI ys + (d : Int) ∧ ∀ y ∈ cntL xs d i ys, 0 ≤ y ∧ y ≤ (xs.length : Int) := by
  intro d
  induction d with
  | zero =>
    intro i ys h _ hy
    rw [cntL]
    exact ⟨by omega, fun y hm => by have := hy y hm; omega⟩
  | succ d ih =>
    intro i ys h hl hy
    obtain ⟨_, _, _, _, g1, g2⟩ := lead_in hg i (by omega)
    have he : (xs.getD i z26).f4.toNat < ys.length := by omega
    have hm : ys.getD (xs.getD i z26).f4.toNat 0 ∈ ys := by
      rw [List.getD_eq_getElem?_getD, List.getElem?_eq_getElem he]
      exact List.getElem_mem he
    have hb := hy _ hm
    have hw : wrap64 (ys.getD (xs.getD i z26).f4.toNat 0 + 1) = ys.getD (xs.getD i z26).f4.toNat 0 + 1 := wrap_id (by omega) (by omega)
    obtain ⟨h1, h2⟩ := ih (i + 1) (ys.set (xs.getD i z26).f4.toNat (ys.getD (xs.getD i z26).f4.toNat 0 + 1)) (by omega) (by rw [List.length_set]; exact hl) (fun y hm2 => by
      rcases List.mem_or_eq_of_mem_set hm2 with hq | rfl
      · have := hy y hq; omega
      · omega)
    rw [cntL, hw]
    exact ⟨by rw [h1, sumI_set _ _ _ he]; omega, h2⟩
theorem same5' (a b c d e : Int) : (!(a == a) || (!(b == b) || (!(c == c) || (!(d == d) || !(e == e))))) = false := by simp
theorem leads_len {xs : List S26} (h : goodLeads xs = true) : xs.length ≤ 12 := (goodLead_facts xs xs.length 0 (by omega) h).2
theorem FnLeads : ∀ (l0 : List Int), l0.length ≤ maxLen → (∀ x ∈ l0, (Lit.int .u8 x).wf = true) → ∃ k, laws_FnLeads.f k l0 = some true := by
  intro l hl hb
  apply Evn.get
  have hB : Byts l := byts_of hb
  have j4 : ∀ xs : List S26, Evn (fun k => laws_FnLeads.j4 k xs (statesL xs).1 (statesL xs).2 false) true := by
    intro xs
    refine Evn.step ?_
    simp only [laws_FnLeads.j4, Bool.false_eq_true, if_false]
    refine Evn.ite (fun ok => ?_) (fun _ => Evn.done _)
    have hg : goodLeads xs = true := by
      unfold statesL at ok
      split at ok
      · assumption
      · cases ok
    have h12 := leads_len hg
    have e1 : (statesL xs).1 = cntL xs xs.length 0 (List.replicate 4 0) := by unfold statesL; rw [if_pos hg]
    obtain ⟨s1, s2⟩ := cnt_sum xs hg h12 xs.length 0 (List.replicate 4 0) (by omega) (by simp) (fun y hy => by have := List.eq_of_mem_replicate hy; omega)
    have hl4 : (cntL xs xs.length 0 (List.replicate 4 0)).length ≤ 1000 := by rw [cntL_len]; simp
    have s3 : sumI (cntL xs xs.length 0 (List.replicate 4 0)) = (xs.length : Int) := by rw [s1]; show (0 : Int) + (0 + (0 + (0 + 0))) + _ = _; omega
    have hs := ev_rSum _ hl4 (fun y hy => by have := s2 y hy; omega)
    rw [s3] at hs
    have h8 : sumAt xs 8 = xs.length := sumAt_all xs (fun x hx => by
      obtain ⟨j, hj, rfl⟩ := List.getElem_of_mem hx
      have h1 := lead_in hg j hj
      rw [List.getD_eq_getElem?_getD, List.getElem?_eq_getElem hj, Option.getD_some] at h1
      exact h1.2.1)
    have lp : ∀ (D i : Nat), i + D = 8 → Evn (fun k => laws_FnLeads.l0 k xs (statesL xs).1 ((sumAt xs i : Nat) : Int) (i : Int)) true := by
      intro D
      induction D with
      | zero =>
        intro i hi
        obtain rfl : i = 8 := by omega
        refine Evn.step ?_
        have c1 : ¬ ((8 : Nat) : Int) < 8 := by decide
        have c2 : ((sumAt xs 8 : Nat) : Int) = (xs.length : Int) := by rw [h8]
        simp only [laws_FnLeads.l0, if_neg c1, if_pos c2]
        rw [e1]
        refine Evn.bind hs ?_
        rw [c2, beq_self_eq_true]
        exact Evn.done _
      | succ D ih =>
        intro i hi
        have hr := ih (i + 1) (by omega)
        have c1 : (i : Int) < 8 := by omega
        have ha := im_LeadsAt xs (i : Int) (by omega)
        have e2 : atL xs (i : Int) = ((xs.filter (fun x => decide (x.f1 = (i : Int)))).map (fun x => x.f0), true) := if_pos ⟨hg, by omega, by omega⟩
        rw [e2] at ha
        have hle := sumAt_le xs (i + 1)
        have hle2 : (i + 1) * xs.length ≤ 8 * 12 := Nat.mul_le_mul (by omega) h12
        have hw : wrap64 (((sumAt xs i : Nat) : Int) + (((xs.filter (fun x => decide (x.f1 = (i : Int)))).map (fun x => x.f0)).length : Int)) = ((sumAt xs (i + 1) : Nat) : Int) := by
          have e3 : sumAt xs (i + 1) = sumAt xs i + ((xs.filter (fun x => decide (x.f1 = (i : Int)))).map (fun x => x.f0)).length := by rw [sumAt, atN, List.length_map]
          rw [e3] at hle ⊢
          rw [wrap_id (by omega) (by omega)]
          omega
        refine Evn.step ?_
        simp only [laws_FnLeads.l0, if_pos c1]
        refine Evn.bind ha ?_
        simp only [if_true, hw, wrap_succ (show i < 4611686018427387904 by omega)]
        exact hr
    exact lp 8 0 (by omega)
  have j2 : Evn (fun k => laws_FnLeads.j2 k l false) true := by
    refine Evn.step ?_
    simp only [laws_FnLeads.j2, Bool.false_eq_true, if_false]
    obtain ⟨t, ht, h1⟩ := dw_DrawLeadsAt hB
    refine Evn.bind ht (Evn.bind (im_LeadsAt t.1 t.2 (by omega)) (Evn.bind (sp_LeadsAt t.1 t.2 (by omega)) ?_))
    simp only [bne_self_eq_false, Bool.false_eq_true, if_false]
    have hn : (atL t.1 t.2).1.length ≤ 4611686018427387904 := by
      unfold atL
      split
      · have := List.length_filter_le (fun x : S26 => decide (x.f1 = t.2)) t.1
        dsimp only
        rw [List.length_map]
        omega
      · simp
    refine Evn.bind (ev_rInts _ hn) ?_
    rw [Bool.not_true]
    refine Evn.step ?_
    simp only [laws_FnLeads.j3, Bool.false_eq_true, if_false]
    refine Evn.bind (im_StatesOf t.1 (by omega)) (Evn.bind (sp_StatesOf t.1 (by omega)) ?_)
    simp only [bne_self_eq_false, Bool.false_eq_true, if_false]
    have hn2 : (statesL t.1).1.length ≤ 4611686018427387904 := by
      unfold statesL
      split
      · dsimp only; rw [cntL_len]; simp
      · simp
    refine Evn.bind (ev_rInts _ hn2) ?_
    simp only [if_true]
    refine Evn.bind (im_AreLeads t.1 (by omega)) ?_
    have hf : ((statesL t.1).2 != goodLeads t.1) = false := by
      unfold statesL
      by_cases g : goodLeads t.1 = true
      · rw [if_pos g, g]; rfl
      · rw [if_neg g, Bool.eq_false_iff.mpr g]; rfl
    rw [hf]
    exact j4 t.1
  have j1 : Evn (fun k => laws_FnLeads.j1 k l false) true := by
    refine Evn.step ?_
    simp only [laws_FnLeads.j1, Bool.false_eq_true, if_false]
    obtain ⟨t, ht, hz⟩ := dw_DrawParseLead hB
    obtain ⟨r, hr, q1⟩ := im_ParseLead t (by omega)
    obtain ⟨r', hr', q2⟩ := sp_ParseLead t (by omega)
    obtain rfl := leadRead_uniq q1 q2
    refine Evn.bind ht (Evn.bind hr (Evn.bind hr' ?_))
    simp only [same5', Bool.false_eq_true, if_false, bne_self_eq_false]
    exact j2
  unfold laws_FnLeads.f laws_rBig.f
  simp only [Option.bind_some]
  refine Evn.ite (fun _ => Evn.done _) (fun _ => ?_)
  obtain ⟨t, ht⟩ := dw_DrawLeadText hB
  refine Evn.bind (Evn.of fun _ => ht) ?_
  obtain ⟨a, b, c, d, e⟩ := t
  dsimp only
  refine Evn.bind (Evn.of fun _ => im_LeadText a b c d e) (Evn.bind (sp_LeadText a b c d e) ?_)
  simp only [if_true, bne_self_eq_false, Bool.false_eq_true, if_false, im_IsLead5, Option.bind_some]
  have hf : ((txtL a b c d e).2 != okL5 a b c d e) = false := by
    unfold txtL
    by_cases g : okL5 a b c d e = true
    · rw [if_pos g, g]; rfl
    · rw [if_neg g, Bool.eq_false_iff.mpr g]; rfl
  rw [hf]
  refine Evn.step ?_
  simp only [laws_FnLeads.j0, Bool.false_eq_true, if_false]
  obtain ⟨r, hr, q1⟩ := im_ParseLead (txtL a b c d e).1 (by have := txtL_size a b c d e; omega)
  refine Evn.bind hr ?_
  refine Evn.ite (fun ok => ?_) (fun _ => j1)
  unfold txtL at ok q1
  by_cases g : okL5 a b c d e = true
  · rw [if_pos g] at q1
    obtain ⟨a', b', c', d', e', rfl, rfl, rfl, rfl, rfl, _⟩ := okL5_nat g
    have h3 := q1.2 a' b' c' d' e' g rfl
    rw [h3]
    simp only [if_true, same5']
    exact j1
  · rw [if_neg g] at ok; exact absurd ok (by decide)

end Go.Proofs.YtldgjibimolcdaaDoor.Pure
