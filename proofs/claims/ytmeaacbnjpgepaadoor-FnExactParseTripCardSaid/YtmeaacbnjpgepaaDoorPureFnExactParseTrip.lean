/- The plain statement of FnExactParseTrip: its plain function returns true at every input. No condition beyond the arguments' own bounds. -/
import Derived.Test.YtmeaacbnjpgepaaDoorQFnExactParseTripx8
import Derived.Test.YtmeaacbnjpgepaaDoorAid
namespace Go.Proofs.YtmeaacbnjpgepaaDoor.Pure
open Go.RowKit Go.Proofs.YtmeaacbnjpgepaaDoorW.PrintWords Go.Proofs.YtmeaacbnjpgepaaDoorW.PrintLast Go.Proofs.YtmeaacbnjpgepaaDoor.Aid Go.Proofs.YtmeaacbnjpgepaaDoor.QFnExactParseTrip
set_option linter.unusedVariables false
set_option linter.unusedSimpArgs false

theorem sp_l1In (x y z : Int) : spec_l1In.f x y z = some (decide (y ≤ x ∧ x ≤ z)) := by
  unfold spec_l1In.f
  by_cases h : x ≥ y <;> simp [h] <;> omega

/-! A trip's rules. -/
def goodT (a b c d e : Int) : Bool := (decide (0 ≤ a ∧ a ≤ 5) && (decide (1 ≤ b ∧ b ≤ 12) && (decide (0 ≤ d ∧ d ≤ 999) && decide (0 ≤ e ∧ e ≤ 999)))) && (if 1 ≤ a ∧ a ≤ 3 then decide (1 ≤ c ∧ c ≤ b) && ((a == 1) == decide (e ≤ d)) else c == 0)

theorem sp_l21In (x : Int) : spec_l21In.f x = some (decide (1 ≤ x ∧ x ≤ 3)) := by
  simp only [spec_l21In.f, sp_l1In, Option.bind_some]
theorem sp_l21Time (x : Int) : spec_l21Time.f x = some (decide (0 ≤ x ∧ x ≤ 999)) := by
  simp only [spec_l21Time.f, sp_l1In, Option.bind_some]
theorem sp_l21Good (a b c d e : Int) : Evn (fun k => spec_l21Good.f k a b c d e) (goodT a b c d e) := by
  refine Evn.step ?_
  refine Evn.of fun k => ?_
  unfold goodT
  simp only [spec_l21Good.f, spec_l21Good.j0, sp_l21In, sp_l21Time, sp_l1In, Option.bind_some, ite_and]
  by_cases h1 : 0 ≤ a ∧ a ≤ 5
  · by_cases h2 : 1 ≤ b ∧ b ≤ 12
    · by_cases h3 : 0 ≤ d ∧ d ≤ 999
      · by_cases h4 : 0 ≤ e ∧ e ≤ 999
        · by_cases h5 : 1 ≤ a ∧ a ≤ 3
          · simp [h1, h2, h3, h4, h5]
          · simp [h1, h2, h3, h4, h5]
        · simp [h1, h2, h3, h4]
      · simp [h1, h2, h3]
    · simp [h1, h2]
  · simp [h1]

/-- A whole number's decimal text. -/
def numT (n : Int) : ByteArray := ⟨(Lib.itoa n).toArray⟩
theorem dg_ext (n : Nat) (h : n < 10) : (⟨#[48, 49, 50, 51, 52, 53, 54, 55, 56, 57]⟩ : ByteArray).extract n (n + 1) = ⟨#[UInt8.ofNat (48 + n)]⟩ := by
  have h2 : n = 0 ∨ n = 1 ∨ n = 2 ∨ n = 3 ∨ n = 4 ∨ n = 5 ∨ n = 6 ∨ n = 7 ∨ n = 8 ∨ n = 9 := by omega
  rcases h2 with rfl | rfl | rfl | rfl | rfl | rfl | rfl | rfl | rfl | rfl <;> rfl
theorem numT_small (n : Nat) (h : n < 10) : numT n = ⟨#[UInt8.ofNat (48 + n)]⟩ := by
  unfold numT
  rw [Lib.itoa_nonneg, Lib.decDigits, dif_pos h]
theorem numT_big (n : Nat) (h : ¬ n < 10) : numT n = numT ((n / 10 : Nat) : Int) ++ ⟨#[UInt8.ofNat (48 + n % 10)]⟩ := by
  unfold numT
  rw [Lib.itoa_nonneg, Lib.itoa_nonneg, Lib.decDigits, dif_neg h]
  apply ByteArray.ext
  simp
theorem numT_size : ∀ (k n : Nat), n < 10 ^ (k + 1) → (numT n).size ≤ k + 1
  | 0, n, h => by
    rw [numT_small n (by simpa using h)]
    exact Nat.le_refl 1
  | k + 1, n, h => by
    by_cases h1 : n < 10
    · rw [numT_small n h1]
      show 1 ≤ _
      omega
    · rw [numT_big n h1, ByteArray.size_append]
      have h2 := numT_size k (n / 10) (by rw [Nat.pow_succ] at h; omega)
      show _ + 1 ≤ _
      omega
theorem Evn.pos {α : Type} {r : α} {c : Prop} [Decidable c] {g g' : Nat → Option α} (h : c) (h' : Evn g r) : Evn (fun k => if c then g k else g' k) r := Evn.ite (fun _ => h') (fun hn => absurd h hn)
theorem sz1 (a : UInt8) : (⟨#[a]⟩ : ByteArray).size = 1 := rfl
theorem sz4 (a b c d : UInt8) : (⟨#[a, b, c, d]⟩ : ByteArray).size = 4 := rfl
theorem sz5 (a b c d e : UInt8) : (⟨#[a, b, c, d, e]⟩ : ByteArray).size = 5 := rfl
theorem sz6 (a b c d e f : UInt8) : (⟨#[a, b, c, d, e, f]⟩ : ByteArray).size = 6 := rfl
theorem sz7 (a b c d e f g : UInt8) : (⟨#[a, b, c, d, e, f, g]⟩ : ByteArray).size = 7 := rfl

theorem sp_l1Num : ∀ (n : Nat), n < 1000000 → Evn (fun k => spec_l1Num.f k (n : Int)) (numT n) := by
  intro n
  induction n using Nat.strongRecOn with
  | _ n ih =>
    intro h
    refine Evn.step ?_
    have h0 : ¬ (n : Int) < 0 := by omega
    by_cases h1 : n < 10
    · have h2 : (n : Int) < 10 := by omega
      have h3 : 0 ≤ (n : Int) := by omega
      have h4 : (n : Int) ≤ ((n + 1 : Nat) : Int) := by omega
      have h5 : ((n + 1 : Nat) : Int) ≤ 10 := by omega
      simp only [spec_l1Num.f, if_neg h0, if_pos h2, if_pos h3, wrap_succ (show n < 4611686018427387904 by omega), if_pos h4, if_pos h5, Int.toNat_natCast]
      rw [dg_ext n h1, ← numT_small n h1]
      exact Evn.done _
    · have h2 : ¬ (n : Int) < 10 := by omega
      have hd : Int.tdiv (n : Int) 10 = ((n / 10 : Nat) : Int) := rfl
      have hm : Int.tmod (n : Int) 10 = ((n % 10 : Nat) : Int) := rfl
      have hw : wrap64 ((n / 10 : Nat) : Int) = ((n / 10 : Nat) : Int) := wrap_id (by omega) (by omega)
      have hb := ih (n / 10) (by omega) (by omega)
      have hz := numT_size 5 (n / 10) (by have : (10 : Nat) ^ (5 + 1) = 1000000 := rfl; omega)
      have hq : n % 10 < 10 := by omega
      simp only [spec_l1Num.f, if_neg h0, if_neg h2, hd, hm, hw]
      refine Evn.bind hb ?_
      have g1 : 0 ≤ ((n % 10 : Nat) : Int) := by omega
      have g2 : ((n % 10 : Nat) : Int) ≤ ((n % 10 + 1 : Nat) : Int) := by omega
      have g3 : ((n % 10 + 1 : Nat) : Int) ≤ 10 := by omega
      have hx := dg_ext (n % 10) hq
      simp only [if_pos g1, wrap_succ (show n % 10 < 4611686018427387904 by omega), if_pos g2, if_pos g3, Int.toNat_natCast, hx]
      refine Evn.pos (by rw [sz1]; omega) ?_
      rw [← numT_big n h1]
      exact Evn.done _

/-- A trip's text. -/
def tripT (a b c d e : Int) : ByteArray := ((((((((stW a ++ (⟨#[32]⟩ : ByteArray)) ++ numT c) ++ (⟨#[47]⟩ : ByteArray)) ++ numT b) ++ (⟨#[32, 100, 117, 101, 32]⟩ : ByteArray)) ++ numT d) ++ (⟨#[32, 97, 116, 32]⟩ : ByteArray)) ++ numT e)
theorem stW_size6 (e : Int) (h : 0 ≤ e) (h' : e < 6) : (stW e).size ≤ 8 := by
  have h2 : e = 0 ∨ e = 1 ∨ e = 2 ∨ e = 3 ∨ e = 4 ∨ e = 5 := by omega
  rcases h2 with rfl | rfl | rfl | rfl | rfl | rfl <;> decide

theorem sp_l21Text (a : Int) (b c d e : Nat) (hb : b < 1000) (hc : c < 1000) (hd : d < 1000) (he : e < 1000) (h0 : 0 ≤ a) (h4 : a < 6) : Evn (fun k => spec_l21Text.f k a b c d e) (tripT a b c d e) := by
  have zb := numT_size 2 b hb
  have zc := numT_size 2 c hc
  have zd := numT_size 2 d hd
  have ze := numT_size 2 e he
  have za := stW_size6 a h0 h4
  have hr : ∀ y, spec_l21Words.f = some y → rdOf ByteArray.empty y a = stW a := by
    intro y hy
    obtain rfl := Option.some.inj hy
    rfl
  unfold spec_l21Text.f tripT
  refine Evn.bind (Evn.done _) ?_
  refine Evn.pos h0 ?_
  refine Evn.pos h4 ?_
  rw [hr _ rfl]
  refine Evn.pos (by first | omega | (simp only [ByteArray.size_append, sz1, sz4, sz5]; omega)) ?_
  refine Evn.bind (sp_l1Num c (by omega)) ?_
  refine Evn.pos (by first | omega | (simp only [ByteArray.size_append, sz1, sz4, sz5]; omega)) ?_
  refine Evn.pos (by first | omega | (simp only [ByteArray.size_append, sz1, sz4, sz5]; omega)) ?_
  refine Evn.bind (sp_l1Num b (by omega)) ?_
  refine Evn.pos (by first | omega | (simp only [ByteArray.size_append, sz1, sz4, sz5]; omega)) ?_
  refine Evn.pos (by first | omega | (simp only [ByteArray.size_append, sz1, sz4, sz5]; omega)) ?_
  refine Evn.bind (sp_l1Num d (by omega)) ?_
  refine Evn.pos (by first | omega | (simp only [ByteArray.size_append, sz1, sz4, sz5]; omega)) ?_
  refine Evn.pos (by first | omega | (simp only [ByteArray.size_append, sz1, sz4, sz5]; omega)) ?_
  refine Evn.bind (sp_l1Num e (by omega)) ?_
  refine Evn.pos (by first | omega | (simp only [ByteArray.size_append, sz1, sz4, sz5]; omega)) ?_
  exact Evn.done _

def ofL (l : List UInt8) : ByteArray := ⟨l.toArray⟩
theorem ofL_data (b : ByteArray) : ofL b.data.toList = b := by cases b; simp [ofL]
theorem data_ofL (l : List UInt8) : (ofL l).data.toList = l := by simp [ofL]
theorem size_data (b : ByteArray) : b.data.toList.length = b.size := by cases b; simp [ByteArray.size]
theorem toList_data (b : ByteArray) : b.toList = b.data.toList := ByteArray.toList_eq b |>.trans (by simp)
theorem byteL_eq {a b : ByteArray} (h : a.toList = b.toList) : a = b := by
  rw [toList_data, toList_data] at h
  rw [← ofL_data a, ← ofL_data b, h]
theorem dataExt {a b : ByteArray} (h : a.data.toList = b.data.toList) : a = b := by rw [← ofL_data a, ← ofL_data b, h]
/-- The words of a row of bytes, at each 'c'. -/
def wordsL (c : UInt8) : List UInt8 → List (List UInt8)
  | [] => [[]]
  | b :: l => if b = c then [] :: wordsL c l else (b :: (wordsL c l).headD []) :: (wordsL c l).tail
theorem wordsL_cons (c : UInt8) (l : List UInt8) : wordsL c l = (wordsL c l).headD [] :: (wordsL c l).tail := by
  cases l with
  | nil => rfl
  | cons b l => unfold wordsL; split <;> rfl
theorem wordsL_hit {b c : UInt8} (h : b = c) (l : List UInt8) : wordsL c (b :: l) = [] :: wordsL c l := by
  conv => lhs; unfold wordsL
  rw [if_pos h]
theorem wordsL_miss {b c : UInt8} (h : ¬ b = c) (l : List UInt8) : wordsL c (b :: l) = (b :: (wordsL c l).headD []) :: (wordsL c l).tail := by
  conv => lhs; unfold wordsL
  rw [if_neg h]
theorem wordsL_one (c : UInt8) : ∀ w : List UInt8, c ∉ w → wordsL c w = [w]
  | [], _ => rfl
  | b :: w, h => by
    have h1 : ¬ b = c := fun e => h (by simp [e])
    have h2 := wordsL_one c w (fun hm => h (List.mem_cons_of_mem _ hm))
    unfold wordsL
    rw [if_neg h1, h2]
    rfl
theorem wordsL_app (c : UInt8) (r : List UInt8) : ∀ w : List UInt8, c ∉ w → wordsL c (w ++ c :: r) = w :: wordsL c r
  | [], _ => by
    rw [List.nil_append]
    conv => lhs; unfold wordsL
    rw [if_pos rfl]
  | b :: w, h => by
    have h1 : ¬ b = c := fun e => h (by simp [e])
    have h2 := wordsL_app c r w (fun hm => h (List.mem_cons_of_mem _ hm))
    rw [List.cons_append]
    conv => lhs; unfold wordsL
    rw [if_neg h1, h2]
    rfl
theorem wordsL_len (c : UInt8) : ∀ (l w : List UInt8), w ∈ wordsL c l → w.length ≤ l.length
  | [], w, h => by
    have : w = [] := by simpa [wordsL] using h
    subst this
    exact Nat.le_refl _
  | b :: l, w, h => by
    have ih := wordsL_len c l
    unfold wordsL at h
    split at h
    · rcases List.mem_cons.1 h with rfl | h
      · exact Nat.zero_le _
      · have := ih w h
        rw [List.length_cons]
        omega
    · rcases List.mem_cons.1 h with rfl | h
      · have := ih ((wordsL c l).headD []) (by rw [wordsL_cons c l]; exact List.mem_cons_self)
        simp only [List.length_cons]
        omega
      · have := ih w (List.mem_of_mem_tail h)
        rw [List.length_cons]
        omega
theorem indexByte_app (c : UInt8) (r : List UInt8) : ∀ w : List UInt8, c ∉ w → Lib.indexByte (w ++ c :: r) c = (w.length : Int)
  | [], _ => by simp [Lib.indexByte]
  | b :: w, h => by
    have h1 : (b == c) = false := by
      have : ¬ b = c := fun e => h (by simp [e])
      simpa using this
    have h2 := indexByte_app c r w (fun hm => h (List.mem_cons_of_mem _ hm))
    have h3 : (((w.length : Nat) : Int) == -1) = false := beq_eq_false_iff_ne.2 (by omega)
    rw [List.cons_append, Lib.indexByte, h1, h2, h3]
    simp
theorem indexByte_no (c : UInt8) : ∀ w : List UInt8, c ∉ w → Lib.indexByte w c = -1
  | [], _ => rfl
  | b :: w, h => by
    have h1 : (b == c) = false := by
      have : ¬ b = c := fun e => h (by simp [e])
      simpa using this
    have h2 := indexByte_no c w (fun hm => h (List.mem_cons_of_mem _ hm))
    rw [Lib.indexByte, h1, h2]
    rfl
theorem split_words (c : UInt8) : ∀ (n : Nat) (l : List UInt8), l.length ≤ n → Lib.splitK [c] 0 (Lib.count l [c]) l = wordsL c l := by
  intro n
  induction n with
  | zero =>
    intro l h
    obtain rfl : l = [] := List.eq_nil_of_length_eq_zero (by omega)
    rw [Lib.count_one]
    rfl
  | succ n ih =>
    intro l h
    by_cases hc : c ∈ l
    · obtain ⟨w, r, rfl, hw⟩ := List.eq_append_cons_of_mem hc
      have hi : Lib.index (w ++ c :: r) [c] = ((w.length : Nat) : Int) := (Lib.index_one _ _).trans (indexByte_app c r w hw)
      have hcnt : Lib.count (w ++ c :: r) [c] = Lib.count r [c] + 1 := by
        rw [Lib.count_one, Lib.count_one, List.count_append, List.count_cons_self, List.count_eq_zero_of_not_mem hw]
        omega
      have hm : ¬ (Lib.index (w ++ c :: r) [c] == -1) = true := by rw [hi]; exact fun e => by have := beq_iff_eq.1 e; omega
      have hr : r.length ≤ n := by simp only [List.length_append, List.length_cons] at h; omega
      rw [hcnt, Lib.splitK, if_neg hm, hi, wordsL_app c r w hw, Int.toNat_natCast, ← ih r hr]
      simp
    · rw [Lib.count_one, List.count_eq_zero_of_not_mem hc, wordsL_one c l hc]
      rfl
/-- A text's words. -/
def wordsB (c : UInt8) (s : ByteArray) : List ByteArray := (wordsL c s.data.toList).map ofL
theorem splitB_words (c : UInt8) (s : ByteArray) : Lib.splitB ⟨#[c]⟩ 0 (Lib.countB s ⟨#[c]⟩) s = wordsB c s := by
  have h := Lib.splitB_data ⟨#[c]⟩ 0 (Lib.countB s ⟨#[c]⟩) s
  have h2 : Lib.splitK [c] 0 (Lib.countB s ⟨#[c]⟩) s.data.toList = wordsL c s.data.toList := split_words c s.data.toList.length s.data.toList (Nat.le_refl _)
  have h3 : (Lib.splitB ⟨#[c]⟩ 0 (Lib.countB s ⟨#[c]⟩) s).map (·.data.toList) = wordsL c s.data.toList := h.trans h2
  unfold wordsB
  rw [← h3, List.map_map]
  conv => lhs; rw [← List.map_id (Lib.splitB ⟨#[c]⟩ 0 (Lib.countB s ⟨#[c]⟩) s)]
  exact List.map_congr_left fun b _ => (ofL_data b).symm
theorem wordsB_size (c : UInt8) (s w : ByteArray) (h : w ∈ wordsB c s) : w.size ≤ s.size := by
  obtain ⟨l, hl, rfl⟩ := List.mem_map.1 h
  have := wordsL_len c _ l hl
  rw [size_data] at this
  exact this
theorem wordsB_app (c : UInt8) (w r : ByteArray) (h : c ∉ w.data.toList) : wordsB c (w ++ ((⟨#[c]⟩ : ByteArray) ++ r)) = w :: wordsB c r := by
  have e : (w ++ ((⟨#[c]⟩ : ByteArray) ++ r)).data.toList = w.data.toList ++ c :: r.data.toList := by simp
  unfold wordsB
  rw [e, wordsL_app c _ _ h, List.map_cons, ofL_data]
theorem wordsB_one (c : UInt8) (w : ByteArray) (h : c ∉ w.data.toList) : wordsB c w = [w] := by
  unfold wordsB
  rw [wordsL_one c _ h, List.map_cons, ofL_data]
  rfl
/-- The number that a row of digits spells behind 'v'. -/
def decV : Nat → List UInt8 → Nat
  | v, [] => v
  | v, b :: l => decV (10 * v + (b.toNat - 48)) l
def digL (l : List UInt8) : Prop := ∀ b ∈ l, 48 ≤ b.toNat ∧ b.toNat ≤ 57
theorem decV_append : ∀ (a b : List UInt8) (v : Nat), decV v (a ++ b) = decV (decV v a) b
  | [], _, _ => rfl
  | _ :: a, b, v => decV_append a b _
theorem decV_ge : ∀ (l : List UInt8) (v : Nat), v ≤ decV v l
  | [], _ => Nat.le_refl _
  | b :: l, v => by
    have := decV_ge l (10 * v + (b.toNat - 48))
    show v ≤ decV (10 * v + (b.toNat - 48)) l
    omega
theorem digit_nat (n : Nat) (h : n < 10) : (UInt8.ofNat (48 + n)).toNat = 48 + n := by
  rw [UInt8.toNat_ofNat']
  omega
theorem numT_digits : ∀ n : Nat, digL (numT n).data.toList ∧ decV 0 (numT n).data.toList = n ∧ 1 ≤ (numT n).size := by
  intro n
  induction n using Nat.strongRecOn with
  | _ n ih =>
    by_cases h1 : n < 10
    · rw [numT_small n h1]
      refine ⟨fun b hb => ?_, ?_, Nat.le_refl _⟩
      · obtain rfl : b = UInt8.ofNat (48 + n) := by simpa using hb
        rw [digit_nat n h1]
        omega
      · show 10 * 0 + ((UInt8.ofNat (48 + n)).toNat - 48) = n
        rw [digit_nat n h1]
        omega
    · obtain ⟨i1, i2, i3⟩ := ih (n / 10) (by omega)
      have hq : n % 10 < 10 := by omega
      have e : (numT ((n / 10 : Nat) : Int) ++ (⟨#[UInt8.ofNat (48 + n % 10)]⟩ : ByteArray)).data.toList = (numT ((n / 10 : Nat) : Int)).data.toList ++ [UInt8.ofNat (48 + n % 10)] := by simp
      rw [numT_big n h1]
      refine ⟨fun b hb => ?_, ?_, ?_⟩
      · rw [e] at hb
        rcases List.mem_append.1 hb with hb | hb
        · exact i1 b hb
        · obtain rfl : b = UInt8.ofNat (48 + n % 10) := by simpa using hb
          rw [digit_nat _ hq]
          omega
      · rw [e, decV_append, i2]
        show 10 * (n / 10) + ((UInt8.ofNat (48 + n % 10)).toNat - 48) = n
        rw [digit_nat _ hq]
        omega
      · rw [ByteArray.size_append]
        omega
theorem numT_no (c : UInt8) (h : c.toNat < 48 ∨ 57 < c.toNat) (n : Nat) : c ∉ (numT n).data.toList := fun hm => by
  have := (numT_digits n).1 c hm
  omega
theorem cut_last (w : ByteArray) (x : UInt8) : (w ++ (⟨#[x]⟩ : ByteArray)).extract 0 w.size = w := by
  apply dataExt
  rw [Lib.extract_data]
  simp only [ByteArray.data_append, Array.toList_append, List.drop_zero, Nat.sub_zero]
  rw [← size_data, List.take_left]
theorem get_last (w : ByteArray) (x : UInt8) : (w ++ (⟨#[x]⟩ : ByteArray)).extract w.size (w.size + 1) = (⟨#[x]⟩ : ByteArray) := by
  apply dataExt
  rw [Lib.extract_data]
  simp only [ByteArray.data_append, Array.toList_append]
  rw [← size_data, List.drop_left, Nat.add_sub_cancel_left]
  rfl
theorem rdOf_mem (ws : List ByteArray) (i : Nat) (h : i < ws.length) : rdOf ByteArray.empty ws (i : Int) ∈ ws := by
  show ws.getD (i : Int).toNat ByteArray.empty ∈ ws
  rw [Int.toNat_natCast, List.getD, List.getElem?_eq_getElem h, Option.getD_some]
  exact List.getElem_mem _
theorem wordsB_pos (c : UInt8) (s : ByteArray) : 0 < (wordsB c s).length := by
  unfold wordsB
  rw [wordsL_cons]
  exact Nat.succ_pos _

theorem bt_at (s : ByteArray) (j : Nat) (h : j < s.size) : ∃ b : UInt8, bt s (j : Int) = (b.toNat : Int) ∧ s.data.toList.drop j = b :: s.data.toList.drop (j + 1) := by
  refine ⟨s[j], ?_, ?_⟩
  · unfold bt
    simp [h]
  · have h' : j < s.data.toList.length := by rw [size_data]; exact h
    rw [List.drop_eq_getElem_cons h']
    rfl
theorem byte_eq (b c : UInt8) : ((b.toNat : Int) = (c.toNat : Int)) ↔ b = c := by
  constructor
  · intro h
    exact UInt8.toNat_inj.1 (by omega)
  · rintro rfl
    rfl
theorem sp_l1Split_l0 (s : ByteArray) (c : UInt8) (hs : s.size < 1099511627776) : ∀ (n i j : Nat) (acc : List ByteArray), j + n = s.size → i ≤ j → acc.length ≤ j →
    Evn (fun k => spec_l1Split.l0 k s (c.toNat : Int) acc (i : Int) (j : Int)) (acc ++ ofL ((s.data.toList.drop i).take (j - i) ++ (wordsL c (s.data.toList.drop j)).headD []) :: (wordsL c (s.data.toList.drop j)).tail.map ofL) := by
  intro n
  induction n with
  | zero =>
    intro i j acc hj hi ha
    refine Evn.step ?_
    have h1 : ¬ (j : Int) < (s.size : Int) := by omega
    have h2 : 0 ≤ (i : Int) := by omega
    have h3 : (i : Int) ≤ (s.size : Int) := by omega
    have h4 : acc.length < 8796093022208 := by omega
    simp only [spec_l1Split.l0, if_neg h1, if_pos h2, if_pos h3, if_pos h4, Int.toNat_natCast]
    refine (Evn.done _).eq_ ?_
    have hd : s.data.toList.drop j = [] := List.drop_eq_nil_of_le (by rw [size_data]; omega)
    have ht : (s.data.toList.drop i).take (j - i) = s.data.toList.drop i := List.take_of_length_le (by rw [List.length_drop, size_data]; omega)
    have he : s.extract i s.size = ofL (s.data.toList.drop i) := by rw [← Lib.extract_to_end, ofL_data]
    rw [hd, ht, he]
    simp [wordsL]
  | succ n ih =>
    intro i j acc hj hi ha
    refine Evn.step ?_
    obtain ⟨b, hb, hd⟩ := bt_at s j (by omega)
    have h1 : (j : Int) < (s.size : Int) := by omega
    have h2 : 0 ≤ (j : Int) := by omega
    have h3 : 0 ≤ (i : Int) := by omega
    have h4 : (i : Int) ≤ (j : Int) := by omega
    have h5 : (j : Int) ≤ (s.size : Int) := by omega
    have h6 : acc.length < 8796093022208 := by omega
    simp only [spec_l1Split.l0, if_pos h1, if_pos h2, if_pos h3, if_pos h4, if_pos h5, if_pos h6, Int.toNat_natCast, hb, byte_eq, wrap_succ (show j < 4611686018427387904 by omega)]
    rw [hd]
    refine Evn.ite (fun hc => ?_) (fun hc => ?_)
    · refine (ih (j + 1) (j + 1) _ (by omega) (Nat.le_refl _) (by rw [List.length_append]; simp; omega)).eq_ ?_
      have he : s.extract i j = ofL ((s.data.toList.drop i).take (j - i)) := by rw [← Lib.extract_data, ofL_data]
      rw [wordsL_hit hc, he]
      simp only [Nat.sub_self, List.take_zero, List.nil_append, List.headD_cons, List.append_nil, List.tail_cons, List.append_assoc, List.cons_append]
      rw [← List.map_cons, ← wordsL_cons]
    · refine (ih i (j + 1) acc (by omega) (by omega) (by omega)).eq_ ?_
      have he : (s.data.toList.drop i).take (j + 1 - i) = (s.data.toList.drop i).take (j - i) ++ [b] := by
        have hg : (s.data.toList.drop i)[j - i]? = some b := by
          rw [List.getElem?_drop, show i + (j - i) = j by omega]
          have : (s.data.toList.drop j)[0]? = some b := by rw [hd]; rfl
          simpa using this
        rw [show j + 1 - i = (j - i) + 1 by omega, List.take_add_one, hg]
        rfl
      rw [wordsL_miss hc, he]
      simp
theorem sp_l1Split (s : ByteArray) (c : UInt8) (hs : s.size < 1099511627776) (x : Int) (hx : x = (c.toNat : Int)) : Evn (fun k => spec_l1Split.f k s x) (wordsB c s) := by
  subst hx
  refine (sp_l1Split_l0 s c hs s.size 0 0 [] (by omega) (Nat.le_refl _) (Nat.le_refl _)).eq_ ?_
  simp only [Nat.sub_self, List.take_zero, List.nil_append, List.drop_zero]
  rw [← List.map_cons, ← wordsL_cons]
  rfl

theorem sp_l1Num_tot (x : Int) (h0 : -1000000 < x) (h1 : x < 1000000) : ∃ r, Evn (fun k => spec_l1Num.f k x) r := by
  by_cases h : x < 0
  · obtain ⟨n, hn⟩ : ∃ n : Nat, wrap64 (-x) = n := ⟨(-x).toNat, by unfold wrap64; omega⟩
    have hn2 : n < 1000000 := by unfold wrap64 at hn; omega
    refine ⟨(⟨#[45]⟩ : ByteArray) ++ numT n, Evn.step ?_⟩
    simp only [spec_l1Num.f, if_pos h, hn]
    refine Evn.bind (sp_l1Num n hn2) ?_
    have hz := numT_size 5 n (by have : (10 : Nat) ^ (5 + 1) = 1000000 := rfl; omega)
    refine Evn.pos (by omega) (Evn.done _)
  · obtain ⟨n, rfl⟩ : ∃ n : Nat, x = n := ⟨x.toNat, by omega⟩
    exact ⟨_, sp_l1Num n (by omega)⟩
theorem rd_end (w : ByteArray) (x : Int) (h0 : -1000000 < x) (h1 : x < 1000000) : ∃ r, Evn (fun k => (spec_l1Num.f k x).bind fun t130 => (if t130.toList = w.toList then (some (x, true)) else (some ((0 : Int), false)))) r := by
  obtain ⟨t, ht⟩ := sp_l1Num_tot x h0 h1
  by_cases h : t.toList = w.toList
  · exact ⟨_, Evn.bind ht (by simp only [if_pos h]; exact Evn.done _)⟩
  · exact ⟨_, Evn.bind ht (by simp only [if_neg h]; exact Evn.done _)⟩
theorem pow10_le {i : Nat} (h : i ≤ 6) : 10 ^ i ≤ 1000000 := Nat.pow_le_pow_right (by omega) h
theorem dig_int (v : Nat) (b : UInt8) (hv : v < 1000000) (h0 : 48 ≤ b.toNat) (h1 : b.toNat ≤ 57) : wrap64 (wrap64 (10 * (v : Int)) + (((b.toNat : Int) - 48) % 256)) = ((10 * v + (b.toNat - 48) : Nat) : Int) := by
  rw [wrap_id (x := 10 * (v : Int)) (by omega) (by omega), wrap_id (by omega) (by omega)]
  omega
theorem rd_l0_tot (w x : ByteArray) (hx : x.size ≤ 6) : ∀ (n i v : Nat), i + n = x.size → v < 10 ^ i → ∃ r, Evn (fun k => spec_l1Read.l0 k w x (v : Int) (i : Int)) r := by
  intro n
  induction n with
  | zero =>
    intro i v hi hv
    have h1 : ¬ (i : Int) < (x.size : Int) := by omega
    have hv2 := pow10_le (show i ≤ 6 by omega)
    by_cases h2 : (x.size : Int) < (w.size : Int)
    · have hw : wrap64 (-(v : Int)) = -(v : Int) := wrap_id (by omega) (by omega)
      obtain ⟨r, hr⟩ := rd_end w (-(v : Int)) (by omega) (by omega)
      refine ⟨r, Evn.step ?_⟩
      simp only [spec_l1Read.l0, if_neg h1, if_pos h2, hw]
      exact hr
    · obtain ⟨r, hr⟩ := rd_end w (v : Int) (by omega) (by omega)
      refine ⟨r, Evn.step ?_⟩
      simp only [spec_l1Read.l0, if_neg h1, if_neg h2]
      exact hr
  | succ n ih =>
    intro i v hi hv
    obtain ⟨b, hb, hd⟩ := bt_at x i (by omega)
    have h1 : (i : Int) < (x.size : Int) := by omega
    have h2 : 0 ≤ (i : Int) := by omega
    have hv2 := pow10_le (show i ≤ 6 by omega)
    by_cases h3 : (b.toNat : Int) < 48
    · refine ⟨(0, false), Evn.step ?_⟩
      simp only [spec_l1Read.l0, if_pos h1, if_pos h2, hb, if_pos h3]
      exact Evn.done _
    · by_cases h4 : (b.toNat : Int) > 57
      · refine ⟨(0, false), Evn.step ?_⟩
        simp only [spec_l1Read.l0, if_pos h1, if_pos h2, hb, if_neg h3, if_pos h4]
        exact Evn.done _
      · obtain ⟨r, hr⟩ := ih (i + 1) (10 * v + (b.toNat - 48)) (by omega) (by rw [Nat.pow_succ]; omega)
        refine ⟨r, Evn.step ?_⟩
        simp only [spec_l1Read.l0, if_pos h1, if_pos h2, hb, if_neg h3, if_neg h4, dig_int v b (by omega) (by omega) (by omega), wrap_succ (show i < 4611686018427387904 by omega)]
        exact hr
theorem rd_l0_val (w x : ByteArray) (hx : x.size ≤ 6) (hw : ¬ (x.size : Int) < (w.size : Int)) (r : Int × Bool) : ∀ (n i v : Nat), i + n = x.size → v < 10 ^ i → digL (x.data.toList.drop i) →
    Evn (fun k => (spec_l1Num.f k (decV v (x.data.toList.drop i) : Nat)).bind fun t130 => (if t130.toList = w.toList then (some (((decV v (x.data.toList.drop i) : Nat) : Int), true)) else (some ((0 : Int), false)))) r →
    Evn (fun k => spec_l1Read.l0 k w x (v : Int) (i : Int)) r := by
  intro n
  induction n with
  | zero =>
    intro i v hi hv hdg he
    have h1 : ¬ (i : Int) < (x.size : Int) := by omega
    refine Evn.step ?_
    simp only [spec_l1Read.l0, if_neg h1, if_neg hw]
    have hd : x.data.toList.drop i = [] := List.drop_eq_nil_of_le (by rw [size_data]; omega)
    rw [hd] at he
    exact he
  | succ n ih =>
    intro i v hi hv hdg he
    obtain ⟨b, hb, hd⟩ := bt_at x i (by omega)
    have h1 : (i : Int) < (x.size : Int) := by omega
    have h2 : 0 ≤ (i : Int) := by omega
    have hv2 := pow10_le (show i ≤ 6 by omega)
    rw [hd] at hdg he
    have hb2 := hdg b List.mem_cons_self
    have h3 : ¬ (b.toNat : Int) < 48 := by omega
    have h4 : ¬ (b.toNat : Int) > 57 := by omega
    have hr := ih (i + 1) (10 * v + (b.toNat - 48)) (by omega) (by rw [Nat.pow_succ]; omega) (fun c hc => hdg c (List.mem_cons_of_mem _ hc)) he
    refine Evn.step ?_
    simp only [spec_l1Read.l0, if_pos h1, if_pos h2, hb, if_neg h3, if_neg h4, dig_int v b (by omega) (by omega) (by omega), wrap_succ (show i < 4611686018427387904 by omega)]
    exact hr
theorem rd_j1_tot (w x : ByteArray) : ∃ r, Evn (fun k => spec_l1Read.j1 k w x) r := by
  by_cases h : 1 ≤ (x.size : Int) ∧ (x.size : Int) ≤ 6
  · obtain ⟨r, hr⟩ := rd_l0_tot w x (by omega) x.size 0 0 (by omega) (by decide)
    refine ⟨r, Evn.step ?_⟩
    simp only [spec_l1Read.j1, sp_l1In, decide_eq_true h, Option.bind_some, if_true]
    exact hr
  · refine ⟨(0, false), Evn.step ?_⟩
    simp only [spec_l1Read.j1, sp_l1In, decide_eq_false h, Option.bind_some, Bool.false_eq_true, if_false]
    exact Evn.done _
theorem rd_j0_tot (w x : ByteArray) (b : Bool) (hx : 1 ≤ x.size ∨ b = false) : ∃ r, Evn (fun k => spec_l1Read.j0 k w x b) r := by
  cases b with
  | true =>
    obtain ⟨r, hr⟩ := rd_j1_tot w (x.extract 1 x.size)
    refine ⟨r, Evn.step ?_⟩
    have h : 1 ≤ (x.size : Int) := by
      rcases hx with h | h
      · omega
      · cases h
    simp only [spec_l1Read.j0, if_true, if_pos h]
    exact hr
  | false =>
    obtain ⟨r, hr⟩ := rd_j1_tot w x
    refine ⟨r, Evn.step ?_⟩
    simp only [spec_l1Read.j0, Bool.false_eq_true, if_false]
    exact hr
theorem sp_l1Read_tot (w : ByteArray) : ∃ r, Evn (fun k => spec_l1Read.f k w) r := by
  unfold spec_l1Read.f
  by_cases h : (w.size : Int) > 1
  · have h2 : 0 < (w.size : Int) := by omega
    obtain ⟨r, hr⟩ := rd_j0_tot w w (bt w 0 == 45) (.inl (by omega))
    refine ⟨r, ?_⟩
    simp only [if_pos h, if_pos h2]
    exact hr
  · obtain ⟨r, hr⟩ := rd_j0_tot w w false (.inr rfl)
    refine ⟨r, ?_⟩
    simp only [if_neg h]
    exact hr
theorem sp_l1Read_num (n : Nat) (hn : n < 1000000) : Evn (fun k => spec_l1Read.f k (numT n)) ((n : Int), true) := by
  obtain ⟨g1, g2, g3⟩ := numT_digits n
  have hz := numT_size 5 n (by have : (10 : Nat) ^ (5 + 1) = 1000000 := rfl; omega)
  have hj1 : Evn (fun k => spec_l1Read.j1 k (numT n) (numT n)) ((n : Int), true) := by
    refine Evn.step ?_
    have h : 1 ≤ ((numT n).size : Int) ∧ ((numT n).size : Int) ≤ 6 := by omega
    simp only [spec_l1Read.j1, sp_l1In, decide_eq_true h, Option.bind_some, if_true]
    refine rd_l0_val (numT n) (numT n) (by omega) (by omega) _ (numT n).size 0 0 (by omega) (by decide) (by rw [List.drop_zero]; exact g1) ?_
    rw [List.drop_zero, g2]
    refine Evn.bind (sp_l1Num n hn) ?_
    simp only [if_true]
    exact Evn.done _
  have hj0 : Evn (fun k => spec_l1Read.j0 k (numT n) (numT n) false) ((n : Int), true) := by
    refine Evn.step ?_
    simp only [spec_l1Read.j0, Bool.false_eq_true, if_false]
    exact hj1
  unfold spec_l1Read.f
  obtain ⟨b, hb, hd⟩ := bt_at (numT n) 0 (by omega)
  have hb2 := g1 b (by rw [← List.drop_zero (l := (numT n).data.toList), hd]; exact List.mem_cons_self)
  have hb0 : bt (numT n) 0 = (b.toNat : Int) := hb
  have hne : ((b.toNat : Int) == 45) = false := beq_eq_false_iff_ne.2 (by omega)
  refine Evn.ite (fun _ => ?_) (fun _ => hj0)
  refine Evn.pos (by omega) ?_
  rw [hb0, hne]
  exact hj0

/-- What a text's reading is: the trip whose text it is, or nothing. -/
def tripRead (s : ByteArray) (r : Int × Int × Int × Int × Int × Bool) : Prop :=
  (r = (0, 0, 0, 0, 0, false) ∨ ∃ a b c d e : Nat, goodT a b c d e = true ∧ s = tripT a b c d e ∧ r = ((a : Int), (b : Int), (c : Int), (d : Int), (e : Int), true))
  ∧ ∀ a b c d e : Nat, goodT a b c d e = true → s = tripT a b c d e → r = ((a : Int), (b : Int), (c : Int), (d : Int), (e : Int), true)
theorem tripRead_uniq {s : ByteArray} {r r' : Int × Int × Int × Int × Int × Bool} (h : tripRead s r) (h' : tripRead s r') : r = r' := by
  rcases h.1 with e | ⟨a, b, c, d, e, h1, h2, h3⟩
  · rcases h'.1 with e' | ⟨a, b, c, d, x, h1, h2, h3⟩
    · rw [e, e']
    · rw [h3, h.2 a b c d x h1 h2]
  · rw [h3, h'.2 a b c d e h1 h2]
theorem goodT_nat {a b c d e : Int} (h : goodT a b c d e = true) : ∃ a' b' c' d' e' : Nat, a = a' ∧ b = b' ∧ c = c' ∧ d = d' ∧ e = e' ∧ a' ≤ 5 ∧ b' ≤ 12 ∧ c' ≤ 12 ∧ d' ≤ 999 ∧ e' ≤ 999 := by
  have hb : 0 ≤ a ∧ a ≤ 5 ∧ 1 ≤ b ∧ b ≤ 12 ∧ 0 ≤ c ∧ c ≤ 12 ∧ 0 ≤ d ∧ d ≤ 999 ∧ 0 ≤ e ∧ e ≤ 999 := by
    unfold goodT at h
    split at h <;> simp only [Bool.and_eq_true, decide_eq_true_eq, beq_iff_eq] at h <;> omega
  exact ⟨a.toNat, b.toNat, c.toNat, d.toNat, e.toNat, by omega, by omega, by omega, by omega, by omega, by omega, by omega, by omega, by omega, by omega⟩
theorem stW_no (e : Nat) (h : e ≤ 5) : (32 : UInt8) ∉ (stW e).data.toList := by
  have h2 : e = 0 ∨ e = 1 ∨ e = 2 ∨ e = 3 ∨ e = 4 ∨ e = 5 := by omega
  rcases h2 with rfl | rfl | rfl | rfl | rfl | rfl <;> decide
/-- A trip's words. -/
def tripW (a b c d e : Int) : List ByteArray := [stW a, numT c ++ ((⟨#[47]⟩ : ByteArray) ++ numT b), ⟨#[100, 117, 101]⟩, numT d, ⟨#[97, 116]⟩, numT e]
theorem tripT_eq (a b c d e : Int) : tripT a b c d e = stW a ++ ((⟨#[32]⟩ : ByteArray) ++ ((numT c ++ ((⟨#[47]⟩ : ByteArray) ++ numT b)) ++ ((⟨#[32]⟩ : ByteArray) ++ ((⟨#[100, 117, 101]⟩ : ByteArray) ++ ((⟨#[32]⟩ : ByteArray) ++ (numT d ++ ((⟨#[32]⟩ : ByteArray) ++ ((⟨#[97, 116]⟩ : ByteArray) ++ ((⟨#[32]⟩ : ByteArray) ++ numT e))))))))) := by
  unfold tripT
  apply dataExt
  simp
theorem trip_words (a b c d e : Nat) (ha : a ≤ 5) : wordsB 32 (tripT a b c d e) = tripW a b c d e := by
  have hn : ∀ n : Nat, (32 : UInt8) ∉ (numT n).data.toList := fun n => numT_no 32 (by decide) n
  have hb : (32 : UInt8) ∉ (numT c ++ ((⟨#[47]⟩ : ByteArray) ++ numT b)).data.toList := by
    have h1 := hn c
    have h2 := hn b
    simp only [ByteArray.data_append, Array.toList_append, List.mem_append]
    rintro (h | h | h)
    · exact h1 h
    · revert h; decide
    · exact h2 h
  rw [tripT_eq, wordsB_app 32 _ _ (stW_no a ha), wordsB_app 32 _ _ hb, wordsB_app 32 _ _ (by decide), wordsB_app 32 _ _ (hn d), wordsB_app 32 _ _ (by decide), wordsB_one 32 _ (hn e)]
  rfl
theorem trip_people (b c : Nat) : wordsB 47 (numT c ++ ((⟨#[47]⟩ : ByteArray) ++ numT b)) = [numT c, numT b] := by
  have hn : ∀ n : Nat, (47 : UInt8) ∉ (numT n).data.toList := fun n => numT_no 47 (by decide) n
  rw [wordsB_app 47 _ _ (hn c), wordsB_one 47 _ (hn b)]
theorem stW_inj {e e' : Nat} (h : e ≤ 5) (h' : e' ≤ 5) (he : stW e = stW e') : e = e' := by
  have h2 : e = 0 ∨ e = 1 ∨ e = 2 ∨ e = 3 ∨ e = 4 ∨ e = 5 := by omega
  have h3 : e' = 0 ∨ e' = 1 ∨ e' = 2 ∨ e' = 3 ∨ e' = 4 ∨ e' = 5 := by omega
  have he2 : (stW e).data.toList = (stW e').data.toList := by rw [he]
  rcases h2 with rfl | rfl | rfl | rfl | rfl | rfl <;> rcases h3 with rfl | rfl | rfl | rfl | rfl | rfl <;> first | rfl | (exfalso; revert he2; decide)
theorem tripT_state (b c d e : Nat) {a a' : Nat} (h : a ≤ 5) (h' : a' ≤ 5) (he : tripT a b c d e = tripT a' b c d e) : a = a' := by
  have := trip_words a b c d e h
  rw [he, trip_words a' b c d e h'] at this
  simp only [tripW, List.cons.injEq] at this
  exact stW_inj h h' this.1.symm
theorem tripT_size (a b c d e : Nat) (ha : a ≤ 5) (hb : b ≤ 12) (hc : c ≤ 12) (hd : d ≤ 999) (he : e ≤ 999) : (tripT a b c d e).size ≤ 40 := by
  have zb := numT_size 1 b (by have : (10 : Nat) ^ (1 + 1) = 100 := rfl; omega)
  have zc := numT_size 1 c (by have : (10 : Nat) ^ (1 + 1) = 100 := rfl; omega)
  have zd := numT_size 2 d (by have : (10 : Nat) ^ (2 + 1) = 1000 := rfl; omega)
  have ze := numT_size 2 e (by have : (10 : Nat) ^ (2 + 1) = 1000 := rfl; omega)
  have za := stW_size6 a (by omega) (by omega)
  unfold tripT
  simp only [ByteArray.size_append, sz1, sz4, sz5, sz6, sz7]
  omega
theorem sp_ParseTrip_l0 (s : ByteArray) (b c d e : Int) : ∀ (n i : Nat) (z : Int), i + n = 6 → ∃ r, Evn (fun k => spec_ParseTrip.l0 k s (i : Int) z b c d e) r
    ∧ (r = (0, 0, 0, 0, 0, false) ∨ ∃ a : Nat, goodT a b c d e = true ∧ s = tripT a b c d e ∧ r = ((a : Int), b, c, d, e, true))
    ∧ ((∃ a : Nat, i ≤ a ∧ goodT a b c d e = true ∧ s = tripT a b c d e) → r.2.2.2.2.2 = true) := by
  intro n
  induction n with
  | zero =>
    intro i z hi
    refine ⟨(0, 0, 0, 0, 0, false), Evn.step ?_, .inl rfl, ?_⟩
    · have h1 : ¬ (i : Int) ≤ 5 := by omega
      simp only [spec_ParseTrip.l0, if_neg h1]
      exact Evn.done _
    · rintro ⟨a, h1, h2, _⟩
      obtain ⟨a', _, _, _, _, h3, _, _, _, _, h4⟩ := goodT_nat h2
      omega
  | succ n ih =>
    intro i z hi
    obtain ⟨r, hr, hr1, hr2⟩ := ih (i + 1) (i : Int) (by omega)
    have h1 : (i : Int) ≤ 5 := by omega
    have hw := wrap_succ (show i < 4611686018427387904 by omega)
    have hg := sp_l21Good (i : Int) b c d e
    by_cases hok : goodT (i : Int) b c d e = true
    · rw [hok] at hg
      obtain ⟨a', b', c', d', e', ha', rfl, rfl, rfl, rfl, hb⟩ := goodT_nat hok
      have ht := sp_l21Text (i : Int) b' c' d' e' (by omega) (by omega) (by omega) (by omega) (by omega) (by omega)
      by_cases hs : (tripT (i : Int) b' c' d' e').toList = s.toList
      · have hse := byteL_eq hs
        refine ⟨((i : Int), (b' : Int), (c' : Int), (d' : Int), (e' : Int), true), Evn.step ?_, .inr ⟨i, hok, hse.symm, rfl⟩, fun _ => rfl⟩
        simp only [spec_ParseTrip.l0, if_pos h1]
        refine Evn.bind hg ?_
        simp only [if_true]
        refine Evn.bind ht ?_
        simp only [if_pos hs]
        exact Evn.done _
      · refine ⟨r, Evn.step ?_, hr1, ?_⟩
        · simp only [spec_ParseTrip.l0, if_pos h1]
          refine Evn.bind hg ?_
          simp only [if_true]
          refine Evn.bind ht ?_
          simp only [if_neg hs, hw]
          exact hr
        · rintro ⟨a, g1, g2, g3⟩
          refine hr2 ⟨a, ?_, g2, g3⟩
          rcases Nat.lt_or_ge i a with h | h
          · exact h
          · obtain rfl : a = i := by omega
            exact absurd (by rw [g3]) hs
    · rw [Bool.not_eq_true] at hok
      rw [hok] at hg
      refine ⟨r, Evn.step ?_, hr1, ?_⟩
      · simp only [spec_ParseTrip.l0, if_pos h1]
        refine Evn.bind hg ?_
        simp only [Bool.false_eq_true, if_false, hw]
        exact hr
      · rintro ⟨a, g1, g2, g3⟩
        refine hr2 ⟨a, ?_, g2, g3⟩
        rcases Nat.lt_or_ge i a with h | h
        · exact h
        · obtain rfl : a = i := by omega
          rw [hok] at g2
          cases g2
theorem sp_ParseTrip_j0t (s : ByteArray) (ws : List ByteArray) : Evn (fun k => spec_ParseTrip.j0 k s ws true) (0, 0, 0, 0, 0, false) := by
  refine Evn.step ?_
  simp only [spec_ParseTrip.j0, if_true]
  exact Evn.done _
theorem trip_key (s : ByteArray) (a b c d e : Nat) (h : goodT a b c d e = true) (h2 : s = tripT a b c d e) : wordsB 32 s = tripW a b c d e ∧ s.size ≤ 40 := by
  obtain ⟨a', b', c', d', e', ha, hb, hc, hd, he, h3⟩ := goodT_nat h
  subst h2
  exact ⟨trip_words a b c d e (by omega), tripT_size a b c d e (by omega) (by omega) (by omega) (by omega) (by omega)⟩
theorem tripRead_zero (s : ByteArray) (h : ∀ a b c d e : Nat, goodT a b c d e = true → s = tripT a b c d e → False) : tripRead s (0, 0, 0, 0, 0, false) := ⟨.inl rfl, fun a b c d e h1 h2 => (h a b c d e h1 h2).elim⟩
theorem sp_ParseTrip (s : ByteArray) (hs : s.size ≤ 1048576) : ∃ r, Evn (fun k => spec_ParseTrip.f k s) r ∧ tripRead s r := by
  have hsp := sp_l1Split s 32 (by omega) 32 rfl
  have key := trip_key s
  have hz := wordsB_size 32 s
  generalize wordsB 32 s = ws at hsp key hz
  unfold spec_ParseTrip.f
  by_cases h1 : (s.size : Int) > 40
  · refine ⟨(0, 0, 0, 0, 0, false), Evn.bind hsp ?_, tripRead_zero s fun a b c d e g1 g2 => by have := (key a b c d e g1 g2).2; omega⟩
    simp only [if_pos h1]
    exact sp_ParseTrip_j0t _ _
  · by_cases h2 : (ws.length : Int) = 6
    · have w1 : 1 < (ws.length : Int) := by omega
      have w3 : 3 < (ws.length : Int) := by omega
      have w5 : 5 < (ws.length : Int) := by omega
      have z1 := hz _ (rdOf_mem ws 1 (by omega))
      have hn : ((ws.length : Int) != 6) = false := bne_eq_false_iff_eq.2 h2
      have hp := sp_l1Split (rdOf ByteArray.empty ws 1) 47 (Nat.lt_of_le_of_lt z1 (by omega)) 47 rfl
      have pkey : ∀ a b c d e : Nat, goodT a b c d e = true → s = tripT a b c d e → wordsB 47 (rdOf ByteArray.empty ws 1) = [numT c, numT b] := fun a b c d e g1 g2 => by
        rw [(key a b c d e g1 g2).1]
        exact trip_people b c
      generalize wordsB 47 (rdOf ByteArray.empty ws 1) = ps at hp pkey
      by_cases h3 : (ps.length : Int) = 2
      · have p0 : 0 < (ps.length : Int) := by omega
        have p1 : 1 < (ps.length : Int) := by omega
        obtain ⟨r1, hr1⟩ := sp_l1Read_tot (rdOf ByteArray.empty ps 0)
        obtain ⟨r2, hr2⟩ := sp_l1Read_tot (rdOf ByteArray.empty ps 1)
        obtain ⟨r3, hr3⟩ := sp_l1Read_tot (rdOf ByteArray.empty ws 3)
        obtain ⟨r4, hr4⟩ := sp_l1Read_tot (rdOf ByteArray.empty ws 5)
        obtain ⟨r, hr, hra, hrb⟩ := sp_ParseTrip_l0 s r2.1 r1.1 r3.1 r4.1 6 0 0 (by omega)
        refine ⟨r, Evn.bind hsp ?_, ?_, ?_⟩
        · simp only [if_neg h1, hn]
          refine Evn.step ?_
          simp only [spec_ParseTrip.j0, Bool.false_eq_true, if_false, if_pos w1]
          refine Evn.bind hp ?_
          simp only [if_pos h3, if_pos p0]
          refine Evn.bind hr1 ?_
          simp only [if_pos p1]
          refine Evn.bind hr2 ?_
          simp only [if_pos w3]
          refine Evn.bind hr3 ?_
          simp only [if_pos w5]
          refine Evn.bind hr4 ?_
          exact hr
        · rcases hra with h | ⟨a, g1, g2, g3⟩
          · exact .inl h
          · obtain ⟨a', b', c', d', e', ha, hb, hc, hd, he, _⟩ := goodT_nat g1
            rw [hb, hc, hd, he] at g1 g2 g3
            exact .inr ⟨a, b', c', d', e', g1, g2, g3⟩
        · intro a b c d e g1 g2
          obtain ⟨a', b', c', d', e', ha, hb, hc, hd, he, h6⟩ := goodT_nat g1
          have ew := (key a b c d e g1 g2).1
          have ep := pkey a b c d e g1 g2
          rw [ew] at hr3 hr4
          rw [ep] at hr1 hr2
          obtain rfl := hr1.uniq (sp_l1Read_num c (by omega))
          obtain rfl := hr2.uniq (sp_l1Read_num b (by omega))
          obtain rfl := hr3.uniq (sp_l1Read_num d (by omega))
          obtain rfl := hr4.uniq (sp_l1Read_num e (by omega))
          have ht := hrb ⟨a, Nat.zero_le _, g1, g2⟩
          rcases hra with h | ⟨x, p1, p2, p3⟩
          · rw [h] at ht
            cases ht
          · obtain ⟨x', _, _, _, _, hx', _, _, _, _, h7⟩ := goodT_nat p1
            obtain rfl := tripT_state b c d e (by omega) (by omega) (p2.symm.trans g2)
            exact p3
      · refine ⟨(0, 0, 0, 0, 0, false), Evn.bind hsp ?_, tripRead_zero s fun a b c d e g1 g2 => by rw [pkey a b c d e g1 g2] at h3; exact h3 rfl⟩
        simp only [if_neg h1, hn]
        refine Evn.step ?_
        simp only [spec_ParseTrip.j0, Bool.false_eq_true, if_false, if_pos w1]
        refine Evn.bind hp ?_
        simp only [if_neg h3]
        exact Evn.done _
    · have hn : ((ws.length : Int) != 6) = true := bne_iff_ne.2 h2
      refine ⟨(0, 0, 0, 0, 0, false), Evn.bind hsp ?_, tripRead_zero s fun a b c d e g1 g2 => by rw [(key a b c d e g1 g2).1] at h2; exact h2 rfl⟩
      simp only [if_neg h1, hn]
      exact sp_ParseTrip_j0t _ _

theorem im_within (x y z : Int) : impl_within.f x y z = some (decide (y ≤ x ∧ x ≤ z)) := by
  unfold impl_within.f
  by_cases h : x ≥ y <;> simp [h] <;> omega

theorem im_isTime (x : Int) : impl_isTime.f x = some (decide (0 ≤ x ∧ x ≤ 999)) := by
  simp only [impl_isTime.f, im_within, Option.bind_some]
theorem im_IsTrip_j1 (k : Nat) (p b c d e : Int) (q : Bool) (hq : q = decide (p = 0 ∨ p = 4 ∨ p = 5)) : impl_IsTrip.j1 (k + 1) p q p b c d e = some (decide (0 ≤ p ∧ p ≤ 5) && (if 1 ≤ p ∧ p ≤ 3 then decide (1 ≤ c ∧ c ≤ b) && ((p == 1) == decide (e ≤ d)) else c == 0)) := by
  subst hq
  simp only [impl_IsTrip.j1, im_within, Option.bind_some, ite_and]
  by_cases h0 : p = 0
  · subst h0; simp
  by_cases h4 : p = 4
  · subst h4; simp
  by_cases h5 : p = 5
  · subst h5; simp
  by_cases h1 : p = 1
  · subst h1; simp
  have hn : decide (d < e) = !decide (e ≤ d) := by by_cases h : e ≤ d <;> simp [h] <;> omega
  by_cases h2 : p = 2
  · subst h2; simp [hn]
  by_cases h3 : p = 3
  · subst h3; simp [hn]
  have : ¬ (0 ≤ p ∧ p ≤ 5) := by omega
  simp [h0, h1, h2, h3, h4, h5, this]
theorem im_IsTrip (a b c d e : Int) : Evn (fun k => impl_IsTrip.f k a b c d e) (goodT a b c d e) := by
  refine Evn.step (Evn.step ?_)
  refine Evn.of fun k => ?_
  unfold goodT
  simp only [impl_IsTrip.f, impl_IsTrip.j0, im_isTime, im_within, Option.bind_some]
  have e0 : impl_IsTrip.j1 (k + 1) a (a == 0) a b c d e = impl_IsTrip.j1 (k + 1) a (a == 0) a b c d e := rfl
  by_cases h2 : 1 ≤ b ∧ b ≤ 12
  · by_cases h3 : 0 ≤ d ∧ d ≤ 999
    · by_cases h4 : 0 ≤ e ∧ e ≤ 999
      · by_cases g0 : a = 0
        · rw [if_pos (decide_eq_true h2), if_pos (decide_eq_true h3), decide_eq_true h4, if_neg (by decide), if_pos g0, im_IsTrip_j1 k a b c d e _ (by simp [g0])]
          simp [h2, h3]
        · by_cases g4 : a = 4
          · rw [if_pos (decide_eq_true h2), if_pos (decide_eq_true h3), decide_eq_true h4, if_neg (by decide), if_neg g0, if_pos g4, im_IsTrip_j1 k a b c d e _ (by simp [g4])]
            simp [h2, h3]
          · rw [if_pos (decide_eq_true h2), if_pos (decide_eq_true h3), decide_eq_true h4, if_neg (by decide), if_neg g0, if_neg g4, im_IsTrip_j1 k a b c d e _ (by by_cases g5 : a = 5 <;> simp [g0, g4, g5])]
            simp [h2, h3]
      · simp [h2, h3, h4]
    · simp [h2, h3]
  · simp [h2]

theorem im_decimal (n : Nat) (h : n < 1000000) : impl_decimal.f (n : Int) = some (numT n) := by
  unfold impl_decimal.f
  rw [if_pos ⟨by omega, by omega⟩]
  rfl

theorem im_tripText (a : Int) (b c d e : Nat) (hb : b < 1000) (hc : c < 1000) (hd : d < 1000) (he : e < 1000) (h0 : 0 ≤ a) (h4 : a < 6) : impl_tripText.f a b c d e = some (tripT a b c d e) := by
  have zb := numT_size 2 b hb
  have zc := numT_size 2 c hc
  have zd := numT_size 2 d hd
  have ze := numT_size 2 e he
  have za := stW_size6 a h0 h4
  unfold impl_tripText.f tripT
  rw [if_pos ⟨h0, h4⟩]
  simp only [im_decimal b (by omega), im_decimal c (by omega), im_decimal d (by omega), im_decimal e (by omega), Option.bind_some]
  repeat rw [if_pos (by first | omega | (simp only [ByteArray.size_append, sz1, sz4, sz5]; omega))]

theorem im_Split (c : UInt8) (s : ByteArray) (h : s.size < 4294967281) : strings_Split.f s ⟨#[c]⟩ = some (wordsB c s) := by
  unfold strings_Split.f
  rw [if_pos ⟨h, Nat.le_refl 1⟩, splitB_words]

def cutB (c : UInt8) (s : ByteArray) : ByteArray × ByteArray × Bool := ((⟨(Lib.cut s.data.toList [c]).1.toArray⟩ : ByteArray), (⟨(Lib.cut s.data.toList [c]).2.1.toArray⟩ : ByteArray), (Lib.cut s.data.toList [c]).2.2)
theorem im_Cut (c : UInt8) (s : ByteArray) (h : s.size < 4294967281) : strings_Cut.f s ⟨#[c]⟩ = some (cutB c s) := by
  unfold strings_Cut.f
  rw [if_pos h]
  rfl
theorem cutB_size (c : UInt8) (s : ByteArray) : (cutB c s).1.size ≤ s.size ∧ (cutB c s).2.1.size ≤ s.size := by
  have h1 : (cutB c s).1.size = (Lib.cut s.data.toList [c]).1.length := by simp [cutB, ByteArray.size]
  have h2 : (cutB c s).2.1.size = (Lib.cut s.data.toList [c]).2.1.length := by simp [cutB, ByteArray.size]
  rw [h1, h2, ← size_data]
  unfold Lib.cut
  split
  · simp only [List.length_take, List.length_drop]
    omega
  · simp
theorem cutB_app (c : UInt8) (w r : ByteArray) (h : c ∉ w.data.toList) : cutB c (w ++ ((⟨#[c]⟩ : ByteArray) ++ r)) = (w, r, true) := by
  have e : (w ++ ((⟨#[c]⟩ : ByteArray) ++ r)).data.toList = w.data.toList ++ c :: r.data.toList := by simp
  have hi : Lib.index (w.data.toList ++ c :: r.data.toList) [c] = ((w.data.toList.length : Nat) : Int) := (Lib.index_one _ _).trans (indexByte_app c _ _ h)
  unfold cutB
  rw [e]
  unfold Lib.cut
  rw [hi, if_pos (by omega), Int.toNat_natCast]
  have h1 : (w.data.toList ++ c :: r.data.toList).take w.data.toList.length = w.data.toList := List.take_left
  have h2 : (w.data.toList ++ c :: r.data.toList).drop (w.data.toList.length + [c].length) = r.data.toList := by
    rw [show w.data.toList ++ c :: r.data.toList = (w.data.toList ++ [c]) ++ r.data.toList by simp, ← List.length_append, List.drop_left]
  rw [h1, h2]

theorem parse_dec : ∀ (l : List UInt8) (acc : Nat), digL l → decV acc l < 1844674407370955161 → Lib.parseUint10 acc l = .ok (decV acc l)
  | [], _, _, _ => rfl
  | b :: l, acc, hd, hv => by
    have hb := hd b List.mem_cons_self
    have hge := decV_ge l (10 * acc + (b.toNat - 48))
    have hv2 : decV (10 * acc + (b.toNat - 48)) l < 1844674407370955161 := hv
    have e : acc * 10 + (b.toNat - 48) = 10 * acc + (b.toNat - 48) := by omega
    unfold Lib.parseUint10
    rw [if_pos hb, if_neg (by omega), if_neg (by omega), e]
    exact parse_dec l _ (fun c hc => hd c (List.mem_cons_of_mem _ hc)) hv2
theorem atoiAll_num (n : Nat) (hn : n < 1000000) : Lib.atoiAll (numT n).data.toList = .ok (n : Int) := by
  obtain ⟨g1, g2, g3⟩ := numT_digits n
  rw [← size_data] at g3
  generalize hl : (numT n).data.toList = l at g1 g2 g3
  cases l with
  | nil => simp at g3
  | cons b l =>
    have hb := g1 b List.mem_cons_self
    have hp : Lib.parseUint10 0 (b :: l) = .ok n := by
      rw [parse_dec (b :: l) 0 g1 (by omega), g2]
    unfold Lib.atoiAll
    have h4 : ¬ b.toNat = 43 := by omega
    have h2 : ¬ b.toNat = 45 := by omega
    have h3 : ¬ 9223372036854775808 ≤ n := by omega
    have h5 : ¬ ((b :: l : List UInt8) = []) := List.cons_ne_nil _ _
    simp only [h4, h2, or_self, if_false, Lib.parseMag, if_neg h5, hp, not_false_eq_true, true_and, false_and, if_neg h3]
theorem parI_num (n : Nat) (hn : n < 1000000) : parI (numT n) = ((n : Int), true) := by
  unfold parI
  rw [atoiAll_num n hn]
  have h : (⟨(Lib.itoa (n : Int)).toArray⟩ : ByteArray).toList = (numT n).toList := rfl
  have h2 : -999999 ≤ (n : Int) ∧ (n : Int) ≤ 999999 := by omega
  simp only [if_pos h, if_pos h2]
theorem numT_inj {m n : Nat} (hm : m < 1000000) (hn : n < 1000000) (h : numT m = numT n) : m = n := by
  have h1 := parI_num m hm
  rw [h, parI_num n hn] at h1
  have := (Prod.mk.inj h1).1
  omega

def pInts (l : List ByteArray) : List Int × Bool := if (l.all fun w => (parI w).2) = true then (l.map fun w => (parI w).1, true) else ([], false)
theorem im_parseInts_l0 (l : List ByteArray) (hs : ∀ w ∈ l, w.size ≤ 281474976710656) (hl : l.length ≤ 1000) : ∀ (n i : Nat) (acc : List Int), i + n = l.length → acc.length = i →
    Evn (fun k => impl_parseInts.l0 k acc l (l.length : Int) (i : Int)) (if ((l.drop i).all fun w => (parI w).2) = true then (acc ++ (l.drop i).map fun w => (parI w).1, true) else ([], false)) := by
  intro n
  induction n with
  | zero =>
    intro i acc hi ha
    refine Evn.step ?_
    have h1 : ¬ (i : Int) < (l.length : Int) := by omega
    simp only [impl_parseInts.l0, if_neg h1]
    rw [List.drop_eq_nil_of_le (by omega)]
    simp only [List.all_nil, if_true, List.map_nil, List.append_nil]
    exact Evn.done _
  | succ n ih =>
    intro i acc hi ha
    refine Evn.step ?_
    have h1 : (i : Int) < (l.length : Int) := by omega
    have h2 : 0 ≤ (i : Int) := by omega
    have h3 : acc.length < 17592186044416 := by omega
    have hd := getD_drop l i ByteArray.empty (by omega)
    have hm : l.getD i ByteArray.empty ∈ l := by
      rw [List.getD, List.getElem?_eq_getElem (show i < l.length by omega), Option.getD_some]
      exact List.getElem_mem _
    have hp : impl_ParseInt.f (l.getD i ByteArray.empty) = some (parI (l.getD i ByteArray.empty)) := by
      unfold impl_ParseInt.f
      rw [if_pos (hs _ hm)]
    simp only [impl_parseInts.l0, if_pos h1, if_pos h2, rdOf, Int.toNat_natCast, hp, Option.bind_some, if_pos h3, wrap_succ (show i < 4611686018427387904 by omega)]
    refine Evn.ite (fun hc => ?_) (fun hc => ?_)
    · refine (ih (i + 1) _ (by omega) (by rw [List.length_append, ha]; rfl)).eq_ ?_
      rw [hd, List.all_cons, hc, Bool.true_and, List.map_cons]
      simp
    · refine (Evn.done _).eq_ ?_
      rw [hd, List.all_cons, Bool.eq_false_iff.2 hc, Bool.false_and]
      simp
theorem im_parseInts (l : List ByteArray) (hs : ∀ w ∈ l, w.size ≤ 281474976710656) (hl : l.length ≤ 1000) : Evn (fun k => impl_parseInts.f k l) (pInts l) := by
  refine (im_parseInts_l0 l hs hl l.length 0 [] (by omega) rfl).eq_ ?_
  simp only [List.drop_zero, List.nil_append]
  rfl

def ixW (ws : List ByteArray) (x : ByteArray) : Nat → Nat → Int
  | 0, _ => -1
  | d + 1, i => if x.toList = (ws.getD i ByteArray.empty).toList then (i : Int) else ixW ws x d (i + 1)
theorem li_IndexS_l0 (ws : List ByteArray) (x : ByteArray) (hx : ws.length ≤ 4194304) : ∀ (d i k : Nat), i + d = ws.length → d < k → slices_Index_string_string.l0 k ws x (ws.length : Int) (i : Int) = some (ixW ws x d i) := by
  intro d
  induction d with
  | zero =>
    intro i k h hk
    obtain ⟨k, rfl⟩ : ∃ m, k = m + 1 := ⟨k - 1, by omega⟩
    have h1 : ¬ (i : Int) < (ws.length : Int) := by omega
    simp only [slices_Index_string_string.l0, if_neg h1, ixW]
  | succ d ih =>
    intro i k h hk
    obtain ⟨k, rfl⟩ : ∃ m, k = m + 1 := ⟨k - 1, by omega⟩
    have h1 : (i : Int) < (ws.length : Int) := by omega
    have h2 : 0 ≤ (i : Int) := by omega
    simp only [slices_Index_string_string.l0, if_pos h1, if_pos h2, rdOf, Int.toNat_natCast, wrap_succ (show i < 4611686018427387904 by omega), ixW, ih (i + 1) k (by omega) (by omega)]
    split <;> rfl
theorem im_xState (x : ByteArray) : impl_xState.f x = some (ixW stWords x stWords.length 0) :=
  li_IndexS_l0 stWords x (by decide) stWords.length 0 20 (by omega) (by decide)

theorem im_ParseTrip_j0t (s : ByteArray) (ws : List ByteArray) (t : Int) : Evn (fun k => impl_ParseTrip.j0 k s ws t true) (0, 0, 0, 0, 0, false) := by
  refine Evn.step ?_
  simp only [impl_ParseTrip.j0, if_true]
  exact Evn.done _
theorem ixW_at (x : ByteArray) (j : Nat) : ∀ (d i : Nat), (∀ m : Nat, i ≤ m → m < j → ¬ x.toList = (stWords.getD m ByteArray.empty).toList) → x.toList = (stWords.getD j ByteArray.empty).toList → i ≤ j → j < i + d → ixW stWords x d i = (j : Int) := by
  intro d
  induction d with
  | zero => intro i _ _ h1 h2; omega
  | succ d ih =>
    intro i h hj h1 h2
    unfold ixW
    by_cases e : i = j
    · subst e
      rw [if_pos hj]
    · rw [if_neg (h i (Nat.le_refl _) (by omega))]
      exact ih (i + 1) (fun m hm => h m (by omega)) hj (by omega) (by omega)
theorem ixW_stW (e : Nat) (h : e ≤ 5) : ixW stWords (stW e) stWords.length 0 = (e : Int) := by
  have hl : stWords.length = 6 := rfl
  have hs : ∀ i : Nat, (stW (i : Int)).toList = (stWords.getD i ByteArray.empty).toList := fun i => by unfold stW; rw [Int.toNat_natCast]
  rw [hl]
  refine ixW_at _ e 6 0 (fun m _ hm hc => ?_) (hs e) (by omega) (by omega)
  rw [← hs m] at hc
  have := stW_inj (e := e) (e' := m) (by omega) (by omega) (byteL_eq hc)
  omega
theorem im_ParseTrip (s : ByteArray) (hs : s.size ≤ 1048576) : ∃ r, Evn (fun k => impl_ParseTrip.f k s) r ∧ tripRead s r := by
  have hsp := im_Split 32 s (by omega)
  have key := trip_key s
  have hz := wordsB_size 32 s
  have w0 : 0 < ((wordsB 32 s).length : Int) := by have := wordsB_pos 32 s; omega
  generalize wordsB 32 s = ws at hsp key hz w0
  unfold impl_ParseTrip.f
  simp only [hsp, Option.bind_some, if_pos w0, im_xState]
  by_cases h2 : (ws.length : Int) = 6
  · simp only [if_pos h2]
    have w1 : 1 < (ws.length : Int) := by omega
    have w3 : 3 < (ws.length : Int) := by omega
    have w5 : 5 < (ws.length : Int) := by omega
    have z1 := hz _ (rdOf_mem ws 1 (by omega))
    have z3 := hz _ (rdOf_mem ws 3 (by omega))
    have z5 := hz _ (rdOf_mem ws 5 (by omega))
    have hcut := im_Cut 47 (rdOf ByteArray.empty ws 1) (Nat.lt_of_le_of_lt z1 (by omega))
    have zc := cutB_size 47 (rdOf ByteArray.empty ws 1)
    have pkey : ∀ a b c d e : Nat, goodT a b c d e = true → s = tripT a b c d e → pInts [(cutB 47 (rdOf ByteArray.empty ws 1)).1, (cutB 47 (rdOf ByteArray.empty ws 1)).2.1, rdOf ByteArray.empty ws 3, rdOf ByteArray.empty ws 5] = ([(c : Int), (b : Int), (d : Int), (e : Int)], true) ∧ ixW stWords (rdOf ByteArray.empty ws 0) stWords.length 0 = (a : Int) := by
      intro a b c d e g1 g2
      obtain ⟨_, _, _, _, _, _, _, _, _, _, h6⟩ := goodT_nat g1
      rw [(key a b c d e g1 g2).1]
      have e1 : cutB 47 (rdOf ByteArray.empty (tripW a b c d e) 1) = (numT c, numT b, true) := cutB_app 47 (numT c) (numT b) (numT_no 47 (by decide) c)
      have e3 : rdOf ByteArray.empty (tripW a b c d e) 3 = numT d := rfl
      have e5 : rdOf ByteArray.empty (tripW a b c d e) 5 = numT e := rfl
      have e0 : rdOf ByteArray.empty (tripW a b c d e) 0 = stW a := rfl
      rw [e1, e3, e5, e0]
      refine ⟨?_, ixW_stW a (by omega)⟩
      unfold pInts
      simp only [List.all_cons, List.all_nil, List.map_cons, List.map_nil, parI_num c (by omega), parI_num b (by omega), parI_num d (by omega), parI_num e (by omega), Bool.and_self, if_true]
    have hp := im_parseInts [(cutB 47 (rdOf ByteArray.empty ws 1)).1, (cutB 47 (rdOf ByteArray.empty ws 1)).2.1, rdOf ByteArray.empty ws 3, rdOf ByteArray.empty ws 5] (by
      intro w hw
      simp only [List.mem_cons, List.not_mem_nil, or_false] at hw
      rcases hw with rfl | rfl | rfl | rfl
      · exact Nat.le_trans zc.1 (Nat.le_trans z1 (by omega))
      · exact Nat.le_trans zc.2 (Nat.le_trans z1 (by omega))
      · exact Nat.le_trans z3 (by omega)
      · exact Nat.le_trans z5 (by omega)) (by simp)
    by_cases hn : ixW stWords (rdOf ByteArray.empty ws 0) stWords.length 0 < 0
    · refine ⟨(0, 0, 0, 0, 0, false), ?_, tripRead_zero s fun a b c d e g1 g2 => by have := (pkey a b c d e g1 g2).2; omega⟩
      simp only [decide_eq_true hn]
      exact im_ParseTrip_j0t _ _ _
    · simp only [decide_eq_false hn]
      by_cases hall : (pInts [(cutB 47 (rdOf ByteArray.empty ws 1)).1, (cutB 47 (rdOf ByteArray.empty ws 1)).2.1, rdOf ByteArray.empty ws 3, rdOf ByteArray.empty ws 5]).2 = true
      · obtain ⟨x0, x1, x2, x3, hx⟩ : ∃ x0 x1 x2 x3 : Int, pInts [(cutB 47 (rdOf ByteArray.empty ws 1)).1, (cutB 47 (rdOf ByteArray.empty ws 1)).2.1, rdOf ByteArray.empty ws 3, rdOf ByteArray.empty ws 5] = ([x0, x1, x2, x3], true) := by
          unfold pInts at hall ⊢
          split
          · exact ⟨_, _, _, _, rfl⟩
          · rename_i hn
            rw [if_neg hn] at hall
            cases hall
        rw [hx] at hp pkey
        generalize hst : ixW stWords (rdOf ByteArray.empty ws 0) stWords.length 0 = t at hn pkey
        have l4 : (([x0, x1, x2, x3] : List Int).length : Int) = 4 := rfl
        have e0 : rd [x0, x1, x2, x3] 0 = x0 := rfl
        have e1 : rd [x0, x1, x2, x3] 1 = x1 := rfl
        have e2 : rd [x0, x1, x2, x3] 2 = x2 := rfl
        have e3 : rd [x0, x1, x2, x3] 3 = x3 := rfl
        have c0 : (0 : Int) < 4 := by decide
        have c1 : (1 : Int) < 4 := by decide
        have c2 : (2 : Int) < 4 := by decide
        have c3 : (3 : Int) < 4 := by decide
        have hg := im_IsTrip t x1 x0 x2 x3
        have inj : ∀ a b c d e : Nat, goodT a b c d e = true → s = tripT a b c d e → t = a ∧ x1 = b ∧ x0 = c ∧ x2 = d ∧ x3 = e := by
          intro a b c d e g1 g2
          obtain ⟨p1, p2⟩ := pkey a b c d e g1 g2
          have p3 := (Prod.mk.inj p1).1
          simp only [List.cons.injEq, and_true] at p3
          exact ⟨p2, p3.2.1, p3.1, p3.2.2.1, p3.2.2.2⟩
        by_cases hok : goodT t x1 x0 x2 x3 = true
        · rw [hok] at hg
          obtain ⟨a, b, c, d, e, rfl, rfl, rfl, rfl, rfl, hb⟩ := goodT_nat hok
          have ht := im_tripText a b c d e (by omega) (by omega) (by omega) (by omega) (by omega) (by omega)
          by_cases hs : (tripT a b c d e).toList = s.toList
          · refine ⟨((a : Int), (b : Int), (c : Int), (d : Int), (e : Int), true), Evn.step ?_, .inr ⟨a, b, c, d, e, hok, (byteL_eq hs).symm, rfl⟩, ?_⟩
            · simp only [impl_ParseTrip.j0, Bool.false_eq_true, if_false, if_pos w1, hcut, Option.bind_some, if_pos w3, if_pos w5]
              refine Evn.bind hp ?_
              simp only [if_true, l4, if_pos c0, if_pos c1, if_pos c2, if_pos c3, e0, e1, e2, e3]
              refine Evn.bind hg ?_
              simp only [if_true, ht, Option.bind_some, if_pos hs]
              exact Evn.done _
            · intro a' b' c' d' e' g1 g2
              obtain ⟨i1, i2, i3, i4, i5⟩ := inj a' b' c' d' e' g1 g2
              rw [i1, i2, i3, i4, i5]
          · refine ⟨(0, 0, 0, 0, 0, false), Evn.step ?_, tripRead_zero s fun a' b' c' d' e' g1 g2 => ?_⟩
            · simp only [impl_ParseTrip.j0, Bool.false_eq_true, if_false, if_pos w1, hcut, Option.bind_some, if_pos w3, if_pos w5]
              refine Evn.bind hp ?_
              simp only [if_true, l4, if_pos c0, if_pos c1, if_pos c2, if_pos c3, e0, e1, e2, e3]
              refine Evn.bind hg ?_
              simp only [if_true, ht, Option.bind_some, if_neg hs]
              exact Evn.done _
            · obtain ⟨i1, i2, i3, i4, i5⟩ := inj a' b' c' d' e' g1 g2
              rw [i1, i2, i3, i4, i5, ← g2] at hs
              exact hs rfl
        · rw [Bool.not_eq_true] at hok
          rw [hok] at hg
          refine ⟨(0, 0, 0, 0, 0, false), Evn.step ?_, tripRead_zero s fun a' b' c' d' e' g1 g2 => ?_⟩
          · simp only [impl_ParseTrip.j0, Bool.false_eq_true, if_false, if_pos w1, hcut, Option.bind_some, if_pos w3, if_pos w5]
            refine Evn.bind hp ?_
            simp only [if_true, l4, if_pos c0, if_pos c1, if_pos c2, if_pos c3, e0, e1, e2, e3]
            refine Evn.bind hg ?_
            simp only [Bool.false_eq_true, if_false]
            exact Evn.done _
          · obtain ⟨i1, i2, i3, i4, i5⟩ := inj a' b' c' d' e' g1 g2
            rw [i1, i2, i3, i4, i5, g1] at hok
            cases hok
      · refine ⟨(0, 0, 0, 0, 0, false), Evn.step ?_, tripRead_zero s fun a b c d e g1 g2 => by rw [(pkey a b c d e g1 g2).1] at hall; exact hall rfl⟩
        simp only [impl_ParseTrip.j0, Bool.false_eq_true, if_false, if_pos w1, hcut, Option.bind_some, if_pos w3, if_pos w5]
        refine Evn.bind hp ?_
        simp only [if_neg hall]
        exact Evn.done _
  · simp only [if_neg h2]
    exact ⟨(0, 0, 0, 0, 0, false), im_ParseTrip_j0t _ _ _, tripRead_zero s fun a b c d e g1 g2 => by rw [(key a b c d e g1 g2).1] at h2; exact h2 rfl⟩

-- laws_eqTrip: as it stands

theorem FnExactParseTrip : ∀ (a0 : ByteArray), a0.size ≤ 140737488351232 → ∃ k, laws_FnExactParseTrip.f k a0 = some true := by
  intro s _
  apply Evn.get
  unfold laws_FnExactParseTrip.f
  by_cases h : (s.size : Int) > 1048576
  · simp only [if_pos h]
    exact Evn.done _
  · simp only [if_neg h]
    obtain ⟨r, hr, hq⟩ := sp_ParseTrip s (by omega)
    obtain ⟨r', hr', hq'⟩ := im_ParseTrip s (by omega)
    obtain rfl := tripRead_uniq hq hq'
    refine Evn.bind hr (Evn.bind hr' ?_)
    simp only [laws_eqTrip.f, if_true, Option.bind_some, bne_self_eq_false, Bool.false_eq_true, if_false]
    exact Evn.done _

end Go.Proofs.YtmeaacbnjpgepaaDoor.Pure
