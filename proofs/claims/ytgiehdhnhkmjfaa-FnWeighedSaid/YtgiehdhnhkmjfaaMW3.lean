/- The law FnWeighed over numbers and lists: weights of powers of 3 weigh a thing, and the balance tells what is lighter or heavier by 1. -/
import Init
import Derived.Test.YtgiehdhnhkmjfaaMW0
import Derived.Test.YtgiehdhnhkmjfaaMW1
import Derived.Test.YtgiehdhnhkmjfaaMW2
import Derived.Test.YtgiehdhnhkmjfaaRows
import Derived.WalkKit
import Derived.ProofKit
import Derived.OpenShut
import Derived.ShutString
import Derived.ChangeOld
import Derived.Below
import Derived.SizedLaws
import Derived.Test.YtgiehdhnhkmjfaaWSized
/- Plain laws of balanced ternary words: values, digits, limits. No program in sight. -/
namespace Go.Proofs.Ytgiehdhnhkmjfaa.Plain
/-- The value of trits, the lowest first. -/
def val : List Int → Int
  | [] => 0
  | a :: r => a + 3 * val r
def Trits (w : List Int) : Prop := ∀ x ∈ w, -1 ≤ x ∧ x ≤ 1
/-- (3^k - 1) / 2 -/
def lim : Nat → Int
  | 0 => 0
  | k + 1 => 3 * lim k + 1
theorem lim_nonneg (k : Nat) : 0 ≤ lim k := by
  induction k with
  | zero => exact Int.le_refl _
  | succ k ih => unfold lim; omega
theorem lim_mono {j k : Nat} (h : j ≤ k) : lim j ≤ lim k := by
  induction k with
  | zero => obtain rfl : j = 0 := by omega
            exact Int.le_refl _
  | succ k ih =>
    by_cases e : j = k + 1
    · subst e; exact Int.le_refl _
    · have h1 := ih (by omega)
      have h2 := lim_nonneg k
      have h3 : lim (k + 1) = 3 * lim k + 1 := rfl
      omega
theorem lim_lt {j k : Nat} (h : j < k) : lim j < lim k := by
  have h1 : lim (j + 1) ≤ lim k := lim_mono h
  have h2 := lim_nonneg j
  have h3 : lim (j + 1) = 3 * lim j + 1 := rfl
  omega
theorem pow_lim (k : Nat) : (3 : Int) ^ k = 2 * lim k + 1 := by
  induction k with
  | zero => rfl
  | succ k ih =>
    rw [Int.pow_succ, ih]
    show (2 * lim k + 1) * 3 = 2 * (3 * lim k + 1) + 1
    omega
theorem lim30 : lim 30 = 102945566047324 := by decide
theorem lim_le30 {k : Nat} (h : k ≤ 30) : lim k ≤ 102945566047324 := by rw [← lim30]; exact lim_mono h
theorem val_bound : ∀ {w : List Int}, Trits w → -lim w.length ≤ val w ∧ val w ≤ lim w.length
  | [], _ => ⟨Int.le_refl _, Int.le_refl _⟩
  | a :: r, h => by
    have h1 := h a List.mem_cons_self
    have h2 := val_bound (w := r) (fun x hx => h x (List.mem_cons_of_mem _ hx))
    simp only [val, List.length_cons, lim]
    omega
/-- The trit that differs from n by a multiple of 3. -/
def dig (n : Int) : Int := if n.tmod 3 > 1 then n.tmod 3 - 3 else if n.tmod 3 < -1 then n.tmod 3 + 3 else n.tmod 3
theorem dig_range (n : Int) : -1 ≤ dig n ∧ dig n ≤ 1 := by
  have h1 := Int.tmod_lt_of_pos n (b := 3) (by omega)
  have h2 : -3 < n.tmod 3 := Int.lt_tmod_of_pos n (by omega)
  unfold dig
  split
  · omega
  · split <;> omega
theorem dig_dvd (n : Int) : ∃ q, n = dig n + 3 * q := by
  have h := Int.tmod_add_mul_tdiv n 3
  unfold dig
  split
  · exact ⟨n.tdiv 3 + 1, by omega⟩
  · split
    · exact ⟨n.tdiv 3 - 1, by omega⟩
    · exact ⟨n.tdiv 3, by omega⟩
theorem dig_unique {a q n : Int} (h : n = a + 3 * q) (h1 : -1 ≤ a) (h2 : a ≤ 1) : dig n = a := by
  obtain ⟨p, hp⟩ := dig_dvd n
  have := dig_range n
  omega
/-- What is left behind the lowest trit. -/
def rest (n : Int) : Int := (n - dig n).tdiv 3
theorem rest_eq (n : Int) : n = dig n + 3 * rest n := by
  obtain ⟨q, hq⟩ := dig_dvd n
  unfold rest
  have : n - dig n = 3 * q := by omega
  rw [this, Int.mul_tdiv_cancel_left _ (by omega)]
  omega
theorem rest_bound {n : Int} {k : Nat} (h : -lim (k + 1) ≤ n ∧ n ≤ lim (k + 1)) : -lim k ≤ rest n ∧ rest n ≤ lim k := by
  have h1 := rest_eq n
  have h2 := dig_range n
  have h3 : lim (k + 1) = 3 * lim k + 1 := rfl
  omega
/-- The word of k trits of a value. -/
def word : Nat → Int → List Int
  | 0, _ => []
  | k + 1, n => dig n :: word k (rest n)
theorem word_length (k : Nat) : ∀ n, (word k n).length = k := by
  induction k with
  | zero => intro n; rfl
  | succ k ih => intro n; simp [word, ih]
theorem word_trits (k : Nat) : ∀ n, Trits (word k n) := by
  induction k with
  | zero => intro n x hx; cases hx
  | succ k ih =>
    intro n x hx
    rcases List.mem_cons.1 hx with rfl | hx
    · exact dig_range n
    · exact ih _ x hx
theorem val_word (k : Nat) : ∀ n, -lim k ≤ n ∧ n ≤ lim k → val (word k n) = n := by
  induction k with
  | zero => intro n h; unfold lim at h; simp only [word, val]; omega
  | succ k ih =>
    intro n h
    simp only [word, val]
    rw [ih _ (rest_bound h)]
    have := rest_eq n
    omega
theorem word_val : ∀ {w : List Int}, Trits w → word w.length (val w) = w
  | [], _ => rfl
  | a :: r, h => by
    have h1 := h a List.mem_cons_self
    have h2 : dig (a + 3 * val r) = a := dig_unique rfl h1.1 h1.2
    have h3 : rest (a + 3 * val r) = val r := by have := rest_eq (a + 3 * val r); omega
    simp only [List.length_cons, val, word, h2, h3]
    rw [word_val (fun x hx => h x (List.mem_cons_of_mem _ hx))]
theorem val_inj {v w : List Int} (hv : Trits v) (hw : Trits w) (hl : v.length = w.length) (h : val v = val w) : v = w := by
  rw [← word_val hv, ← word_val hw, hl, h]
/-- Trits that are not 0. -/
def weight : List Int → Int
  | [] => 0
  | a :: r => a * a + weight r
theorem word_more (k : Nat) : ∀ (j : Nat) (n : Int), -lim k ≤ n ∧ n ≤ lim k → word (k + j) n = word k n ++ List.replicate j 0 := by
  induction k with
  | zero =>
    intro j n h
    obtain rfl : n = 0 := by unfold lim at h; omega
    induction j with
    | zero => rfl
    | succ j ih =>
      have e : rest 0 = 0 := by decide
      have e2 : dig 0 = 0 := by decide
      rw [show 0 + (j + 1) = (0 + j) + 1 by omega]
      simp only [word, e, e2]
      rw [ih]
      rfl
  | succ k ih =>
    intro j n h
    rw [show k + 1 + j = (k + j) + 1 by omega]
    simp only [word]
    rw [ih j _ (rest_bound h)]
    rfl
theorem weight_append (a b : List Int) : weight (a ++ b) = weight a + weight b := by
  induction a with
  | nil => simp [weight]
  | cons x r ih => simp only [List.cons_append, weight, ih]; omega
theorem weight_zeros (j : Nat) : weight (List.replicate j 0) = 0 := by
  induction j with
  | zero => rfl
  | succ j ih => simp [List.replicate_succ, weight, ih]
theorem weight_bound : ∀ {w : List Int}, Trits w → 0 ≤ weight w ∧ weight w ≤ w.length
  | [], _ => ⟨Int.le_refl _, Int.le_refl _⟩
  | a :: r, h => by
    have h1 := h a List.mem_cons_self
    have h2 := weight_bound (w := r) (fun x hx => h x (List.mem_cons_of_mem _ hx))
    simp only [weight, List.length_cons]
    have : a * a = 0 ∨ a * a = 1 := by
      rcases (show a = -1 ∨ a = 0 ∨ a = 1 by omega) with rfl | rfl | rfl <;> simp
    omega
/-- The least number of trits, from j on, below 31; 0 if there is none. -/
def lenFrom (n : Int) : Nat → Nat → Nat
  | 0, _ => 0
  | d + 1, j => if -lim j ≤ n ∧ n ≤ lim j then j else lenFrom n d (j + 1)
def len (n : Int) : Nat := lenFrom n 30 1
theorem lenFrom_spec (n : Int) (d : Nat) : ∀ j, j + d = 31 → (lenFrom n d j = 0 ∧ ∀ i, j ≤ i → i ≤ 30 → ¬ (-lim i ≤ n ∧ n ≤ lim i)) ∨ (j ≤ lenFrom n d j ∧ lenFrom n d j ≤ 30 ∧ (-lim (lenFrom n d j) ≤ n ∧ n ≤ lim (lenFrom n d j))) := by
  induction d with
  | zero => intro j h; exact .inl ⟨rfl, fun i h1 h2 => by omega⟩
  | succ d ih =>
    intro j h
    unfold lenFrom
    by_cases hc : -lim j ≤ n ∧ n ≤ lim j
    · rw [if_pos hc]
      exact .inr ⟨Nat.le_refl _, by omega, hc⟩
    · rw [if_neg hc]
      rcases ih (j + 1) (by omega) with ⟨h1, h2⟩ | ⟨h1, h2, h3⟩
      · refine .inl ⟨h1, fun i hi hi2 => ?_⟩
        by_cases e : i = j
        · subst e; exact hc
        · exact h2 i (by omega) hi2
      · exact .inr ⟨by omega, h2, h3⟩
theorem len_spec {n : Int} (h : -lim 30 ≤ n ∧ n ≤ lim 30) : 1 ≤ len n ∧ len n ≤ 30 ∧ (-lim (len n) ≤ n ∧ n ≤ lim (len n)) := by
  rcases lenFrom_spec n 30 1 rfl with ⟨_, h2⟩ | h2
  · exact absurd h (h2 30 (by omega) (Nat.le_refl _))
  · exact h2
theorem len_zero {n : Int} (h : ¬ (-lim 30 ≤ n ∧ n ≤ lim 30)) : len n = 0 := by
  rcases lenFrom_spec n 30 1 rfl with ⟨h1, _⟩ | ⟨_, h2, h3⟩
  · exact h1
  · have := lim_mono h2
    have h4 := lim_nonneg (lenFrom n 30 1)
    exact absurd (show -lim 30 ≤ n ∧ n ≤ lim 30 by omega) h
end Go.Proofs.Ytgiehdhnhkmjfaa.Plain
/- What the reference's functions on words tell: each printed function, from some number of rounds on, is the plain one. -/
namespace Go.Proofs.Ytgiehdhnhkmjfaa.Plain
open Go.RowKit Go.Proofs.Ytgiehdhnhkmjfaa.X Go.Proofs.YtgiehdhnhkmjfaaW.PrintWords Go.Proofs.YtgiehdhnhkmjfaaW.PrintLast Go.Proofs.YtgiehdhnhkmjfaaW.PrintMore
theorem wrapS {x : Int} (h1 : -9000000000000000000 ≤ x) (h2 : x ≤ 9000000000000000000) : wrap64 x = x := by unfold wrap64; omega
theorem wrapN {i n : Nat} (h : i < n) (hn : n ≤ 9000000000000000000) : wrap64 ((i : Int) + 1) = ((i + 1 : Nat) : Int) := by unfold wrap64; omega
theorem rd_at {xs : List Int} {i : Nat} (h : i < xs.length) : rd xs (i : Int) = xs[i] := by simp [rd, List.getElem?_eq_getElem h]
theorem tritB_iff (x : Int) : tritB x = true ↔ -1 ≤ x ∧ x ≤ 1 := by unfold tritB; simp
theorem wordB_iff (w : List Int) : wordB w = true ↔ 1 ≤ w.length ∧ w.length ≤ 30 ∧ Trits w := by
  unfold wordB Trits
  simp only [Bool.and_eq_true, decide_eq_true_eq, List.all_eq_true, tritB_iff]
  exact ⟨fun h => ⟨h.1.1, h.1.2, h.2⟩, fun h => ⟨⟨h.1, h.2.1⟩, h.2.2⟩⟩
theorem trits_word (k : Nat) (n : Int) (h1 : 1 ≤ k) (h2 : k ≤ 30) : wordB (word k n) = true := (wordB_iff _).2 ⟨by rw [word_length]; exact h1, by rw [word_length]; exact h2, word_trits k n⟩
theorem spec_l1In_tells (a b c : Int) : spec_l1In.f a b c = some (decide (b ≤ a ∧ a ≤ c)) := by
  unfold spec_l1In.f
  by_cases h : a ≥ b
  · rw [if_pos h]
    congr 1
    simp [show b ≤ a from h]
  · rw [if_neg h, decide_eq_false (fun hh => h hh.1)]
theorem spec_IsTrit_tells (x : Int) : spec_IsTrit.f x = some (tritB x) := by
  unfold spec_IsTrit.f tritB
  rw [spec_l1In_tells]
  simp only [Option.bind_some]
  congr 1
  by_cases h1 : -1 ≤ x <;> by_cases h2 : x ≤ 1 <;> simp [h1, h2]
theorem spec_IsWord_l (xs : List Int) (hx : xs.length ≤ 9000000000000000000) (d : Nat) : ∀ (k i : Nat), i ≤ xs.length → xs.length - i = d → d < k →
    spec_IsWord.l0 k xs xs (xs.length : Int) (i : Int) = some ((xs.drop i).all tritB && (decide (1 ≤ xs.length) && decide (xs.length ≤ 30))) := by
  induction d with
  | zero =>
    intro k i h1 h2 hk
    obtain ⟨k, rfl⟩ : ∃ m, k = m + 1 := ⟨k - 1, by omega⟩
    simp only [spec_IsWord.l0]
    rw [if_neg (by omega), List.drop_of_length_le (by omega), spec_l1In_tells]
    simp only [Option.bind_some, List.all_nil, Bool.true_and]
    congr 1
    by_cases h1 : 1 ≤ xs.length <;> by_cases h2 : xs.length ≤ 30 <;> simp [h1, h2] <;> omega
  | succ d ih =>
    intro k i h1 h2 hk
    obtain ⟨k, rfl⟩ : ∃ m, k = m + 1 := ⟨k - 1, by omega⟩
    have hi : i < xs.length := by omega
    simp only [spec_IsWord.l0]
    rw [if_pos (by omega), if_pos (by omega), if_pos (by omega), rd_at hi, spec_IsTrit_tells, List.drop_eq_getElem_cons hi, List.all_cons]
    simp only [Option.bind_some]
    cases hb : tritB xs[i] with
    | true =>
      rw [if_pos rfl, Bool.true_and, wrapN hi hx]
      exact ih k (i + 1) (by omega) (by omega) (by omega)
    | false => rfl
theorem spec_IsWord_tells (xs : List Int) (hx : xs.length ≤ 9000000000000000000) (k : Nat) (hk : xs.length < k) : spec_IsWord.f k xs = some (wordB xs) := by
  unfold spec_IsWord.f wordB
  have h := spec_IsWord_l xs hx xs.length k 0 (Nat.zero_le _) rfl hk
  rw [List.drop_zero] at h
  rw [show (0 : Int) = ((0 : Nat) : Int) from rfl, h, Bool.and_comm]
theorem spec_LimitOf_l (n : Nat) (hn : n ≤ 30) (d : Nat) : ∀ (k i : Nat), i ≤ n → n - i = d → d < k → spec_LimitOf.l0 k (n : Int) (lim i) (i : Int) = some (lim n) := by
  induction d with
  | zero =>
    intro k i h1 h2 hk
    obtain ⟨k, rfl⟩ : ∃ m, k = m + 1 := ⟨k - 1, by omega⟩
    obtain rfl : i = n := by omega
    simp only [spec_LimitOf.l0]
    rw [if_neg (by omega)]
  | succ d ih =>
    intro k i h1 h2 hk
    obtain ⟨k, rfl⟩ : ∃ m, k = m + 1 := ⟨k - 1, by omega⟩
    have h3 := lim_le30 (k := i) (by omega)
    have h4 := lim_nonneg i
    simp only [spec_LimitOf.l0]
    rw [if_pos (by omega), wrapS (x := 3 * lim i) (by omega) (by omega), wrapS (by omega) (by omega), wrapN (n := n) (by omega) (by omega)]
    exact ih k (i + 1) (by omega) (by omega) (by omega)
theorem spec_LimitOf_tells (n : Int) (k : Nat) (hk : 31 ≤ k) : spec_LimitOf.f k n = some (if 1 ≤ n ∧ n ≤ 30 then lim n.toNat else 0) := by
  unfold spec_LimitOf.f
  rw [spec_l1In_tells]
  simp only [Option.bind_some]
  by_cases h : 1 ≤ n ∧ n ≤ 30
  · rw [if_pos (by simpa using h), if_pos h]
    obtain ⟨m, rfl⟩ := Int.eq_ofNat_of_zero_le (show 0 ≤ n by omega)
    exact spec_LimitOf_l m (by omega) m k 0 (Nat.zero_le _) rfl (by omega)
  · rw [if_neg (by simpa using h), if_neg h]
theorem spec_LimitOf_at {n : Nat} (h1 : 1 ≤ n) (h2 : n ≤ 30) (k : Nat) (hk : 31 ≤ k) : spec_LimitOf.f k (n : Int) = some (lim n) := by
  rw [spec_LimitOf_tells _ k hk, if_pos (by omega), Int.toNat_natCast]
theorem spec_l2Value_l (xs : List Int) (ht : Trits xs) (hl : xs.length ≤ 30) (d : Nat) : ∀ (k : Nat), d ≤ xs.length → d < k → spec_l2Value.l0 k xs (val (xs.drop d)) ((d : Int) - 1) = some (val xs) := by
  induction d with
  | zero =>
    intro k h1 hk
    obtain ⟨k, rfl⟩ : ∃ m, k = m + 1 := ⟨k - 1, by omega⟩
    simp only [spec_l2Value.l0]
    rw [if_neg (by omega), List.drop_zero]
  | succ d ih =>
    intro k h1 hk
    obtain ⟨k, rfl⟩ : ∃ m, k = m + 1 := ⟨k - 1, by omega⟩
    have hi : d < xs.length := by omega
    have e : ((d + 1 : Nat) : Int) - 1 = (d : Int) := by omega
    have hb := val_bound (w := xs.drop (d + 1)) (fun x hx => ht x (List.mem_of_mem_drop hx))
    have hb2 := lim_le30 (k := (xs.drop (d + 1)).length) (by rw [List.length_drop]; omega)
    have hx := ht xs[d] (List.getElem_mem hi)
    simp only [spec_l2Value.l0]
    rw [e, if_pos (by omega), if_pos (by omega), if_pos (by omega), rd_at hi, wrapS (x := 3 * val (xs.drop (d + 1))) (by omega) (by omega), wrapS (by omega) (by omega), wrapS (x := (d : Int) - 1) (by omega) (by omega)]
    have e2 : 3 * val (xs.drop (d + 1)) + xs[d] = val (xs.drop d) := by rw [List.drop_eq_getElem_cons hi]; simp only [val]; omega
    rw [e2]
    exact ih k (by omega) (by omega)
theorem spec_l2Value_tells (xs : List Int) (ht : Trits xs) (hl : xs.length ≤ 30) (k : Nat) (hk : 31 ≤ k) : spec_l2Value.f k xs = some (val xs) := by
  unfold spec_l2Value.f
  have h := spec_l2Value_l xs ht hl xs.length k (Nat.le_refl _) (by omega)
  rw [List.drop_length] at h
  rw [wrapS (by omega) (by omega)]
  exact h
theorem spec_ValueOf_tells (xs : List Int) (hw : wordB xs = true) (k : Nat) (hk : 31 ≤ k) : spec_ValueOf.f k xs = some (val xs) := by
  obtain ⟨h1, h2, h3⟩ := (wordB_iff _).1 hw
  unfold spec_ValueOf.f
  rw [spec_IsWord_tells xs (by omega) k (by omega), hw]
  simp only [Option.bind_some, if_true]
  rw [spec_l2Value_tells xs h3 h2 k hk]
  rfl
theorem spec_l2Word_l (j : Nat) (hj : j ≤ 1000) (d : Nat) : ∀ (k i : Nat) (n : Int) (acc : List Int), -1000000000000000000 ≤ n → n ≤ 1000000000000000000 → acc.length = i → i ≤ j → j - i = d → d < k →
    spec_l2Word.l0 k n (j : Int) acc (i : Int) = some (acc ++ word d n) := by
  induction d with
  | zero =>
    intro k i n acc hn1 hn2 hacc h1 h2 hk
    obtain ⟨k, rfl⟩ : ∃ m, k = m + 1 := ⟨k - 1, by omega⟩
    simp only [spec_l2Word.l0]
    rw [if_neg (by omega)]
    simp [word]
  | succ d ih =>
    intro k i n acc hn1 hn2 hacc h1 h2 hk
    obtain ⟨k, rfl⟩ : ∃ m, k = m + 1 := ⟨k - 1, by omega⟩
    have hr := rest_eq n
    have hd := dig_range n
    have key : ∀ (x : Int), x = dig n → (if acc.length < 17592186044416 then spec_l2Word.l0 k (wrap64 (Int.tdiv (wrap64 (n - x)) 3)) (j : Int) (acc ++ [x]) (wrap64 ((i : Int) + 1)) else none) = some (acc ++ word (d + 1) n) := by
      rintro x rfl
      rw [if_pos (by omega), wrapS (x := n - dig n) (by omega) (by omega), wrapN (n := j) (by omega) (by omega)]
      show spec_l2Word.l0 k (wrap64 (rest n)) _ _ _ = _
      rw [wrapS (by omega) (by omega), ih k (i + 1) (rest n) (acc ++ [dig n]) (by omega) (by omega) (by simp [hacc]) (by omega) (by omega) (by omega)]
      simp [word, List.append_assoc]
    have h3 := Int.tmod_lt_of_pos n (b := 3) (by omega)
    have h4 : -3 < n.tmod 3 := Int.lt_tmod_of_pos n (by omega)
    simp only [spec_l2Word.l0]
    rw [if_pos (by omega)]
    by_cases c1 : Int.tmod n 3 > 1
    · rw [if_pos c1]
      have e : dig n = Int.tmod n 3 - 3 := by unfold dig; rw [if_pos c1]
      rw [wrapS (x := Int.tmod n 3 - 3) (by omega) (by omega), if_neg (by omega)]
      exact key _ e.symm
    · rw [if_neg c1]
      by_cases c2 : Int.tmod n 3 < -1
      · rw [if_pos c2]
        have e : dig n = Int.tmod n 3 + 3 := by unfold dig; rw [if_neg c1, if_pos c2]
        rw [wrapS (x := Int.tmod n 3 + 3) (by omega) (by omega)]
        exact key _ e.symm
      · rw [if_neg c2]
        have e : dig n = Int.tmod n 3 := by unfold dig; rw [if_neg c1, if_neg c2]
        exact key _ e.symm
theorem spec_l2Word_tells (n : Int) (j : Nat) (hj : j ≤ 1000) (h1 : -1000000000000000000 ≤ n) (h2 : n ≤ 1000000000000000000) (k : Nat) (hk : j < k) : spec_l2Word.f k n (j : Int) = some (word j n) := by
  unfold spec_l2Word.f
  exact spec_l2Word_l j hj j k 0 n [] h1 h2 rfl (Nat.zero_le _) rfl hk
theorem spec_WordOf_at {n : Int} {j : Nat} (h1 : 1 ≤ j) (h2 : j ≤ 30) (k : Nat) (hk : 31 ≤ k) : spec_WordOf.f k n (j : Int) = some (if -lim j ≤ n ∧ n ≤ lim j then (word j n, true) else ([], false)) := by
  have h3 := lim_le30 h2
  have h4 := lim_nonneg j
  unfold spec_WordOf.f
  rw [spec_l1In_tells, decide_eq_true (show (1 : Int) ≤ (j : Int) ∧ (j : Int) ≤ 30 by omega)]
  simp only [Option.bind_some, if_true]
  rw [spec_LimitOf_at h1 h2 k hk]
  simp only [Option.bind_some]
  rw [wrapS (by omega) (by omega), spec_l1In_tells]
  simp only [Option.bind_some]
  by_cases h : -lim j ≤ n ∧ n ≤ lim j
  · rw [if_pos (by simpa using h), if_pos h, spec_l2Word_tells n j (by omega) (by omega) (by omega) k (by omega)]
    rfl
  · rw [if_neg (by simpa using h), if_neg h]
theorem spec_LengthOf_l (n : Int) (d : Nat) : ∀ (k j : Nat), 1 ≤ j → j + d = 31 → 31 + d < k → spec_LengthOf.l0 k n (j : Int) = some ((lenFrom n d j : Nat) : Int) := by
  induction d with
  | zero =>
    intro k j h1 h2 hk
    obtain ⟨k, rfl⟩ : ∃ m, k = m + 1 := ⟨k - 1, by omega⟩
    simp only [spec_LengthOf.l0]
    rw [if_neg (by omega)]
    rfl
  | succ d ih =>
    intro k j h1 h2 hk
    obtain ⟨k, rfl⟩ : ∃ m, k = m + 1 := ⟨k - 1, by omega⟩
    have h3 := lim_le30 (k := j) (by omega)
    have h4 := lim_nonneg j
    simp only [spec_LengthOf.l0]
    rw [if_pos (by omega), spec_LimitOf_at h1 (by omega) k (by omega)]
    simp only [Option.bind_some]
    rw [wrapS (by omega) (by omega), spec_l1In_tells]
    simp only [Option.bind_some]
    unfold lenFrom
    by_cases h : -lim j ≤ n ∧ n ≤ lim j
    · rw [if_pos (by simpa using h), if_pos h]
    · rw [if_neg (by simpa using h), if_neg h, wrapN (n := 31) (by omega) (by omega)]
      exact ih k (j + 1) (by omega) (by omega) (by omega)
theorem spec_LengthOf_tells (n : Int) (k : Nat) (hk : 62 ≤ k) : spec_LengthOf.f k n = some ((len n : Nat) : Int) := by
  unfold spec_LengthOf.f
  exact spec_LengthOf_l n 30 k 1 (by omega) rfl (by omega)
theorem spec_WeightOf_l (xs : List Int) (ht : Trits xs) (hl : xs.length ≤ 30) (d : Nat) : ∀ (k i : Nat) (acc : Int), 0 ≤ acc → acc ≤ i → i ≤ xs.length → xs.length - i = d → d < k → spec_WeightOf.l0 k acc xs (xs.length : Int) (i : Int) = some (acc + weight (xs.drop i)) := by
  induction d with
  | zero =>
    intro k i acc ha1 ha2 h1 h2 hk
    obtain ⟨k, rfl⟩ : ∃ m, k = m + 1 := ⟨k - 1, by omega⟩
    simp only [spec_WeightOf.l0]
    rw [if_neg (by omega), List.drop_of_length_le (by omega)]
    simp [weight]
  | succ d ih =>
    intro k i acc ha1 ha2 h1 h2 hk
    obtain ⟨k, rfl⟩ : ∃ m, k = m + 1 := ⟨k - 1, by omega⟩
    have hi : i < xs.length := by omega
    have hx := ht xs[i] (List.getElem_mem hi)
    have hsq : xs[i] * xs[i] = 0 ∨ xs[i] * xs[i] = 1 := by
      rcases (show xs[i] = -1 ∨ xs[i] = 0 ∨ xs[i] = 1 by omega) with e | e | e <;> rw [e] <;> simp
    simp only [spec_WeightOf.l0]
    rw [if_pos (by omega), if_pos (by omega), if_pos (by omega), rd_at hi, wrapS (x := xs[i] * xs[i]) (by omega) (by omega), wrapS (x := acc + _) (by omega) (by omega), wrapN hi (by omega), ih k (i + 1) _ (by omega) (by omega) (by omega) (by omega) (by omega), List.drop_eq_getElem_cons hi]
    simp only [weight]
    congr 1
    omega
theorem spec_WeightOf_tells (xs : List Int) (hw : wordB xs = true) (k : Nat) (hk : 31 ≤ k) : spec_WeightOf.f k xs = some (weight xs) := by
  obtain ⟨h1, h2, h3⟩ := (wordB_iff _).1 hw
  unfold spec_WeightOf.f
  rw [spec_IsWord_tells xs (by omega) k (by omega), hw]
  simp only [Option.bind_some, if_true]
  have h := spec_WeightOf_l xs h3 h2 xs.length k 0 0 (Int.le_refl _) (Int.le_refl _) (Nat.zero_le _) rfl (by omega)
  rw [List.drop_zero, Int.zero_add] at h
  exact h
theorem spec_l5Lift_l (d : Nat) : ∀ (k : Nat) (x : Int), d ≤ 1000 → 0 ≤ x → x * 3 ^ d ≤ 1000000000000000000 → d < k → spec_l5Lift.l0 k x (d : Int) = some (x * 3 ^ d) := by
  induction d with
  | zero =>
    intro k x hd h0 h1 hk
    obtain ⟨k, rfl⟩ : ∃ m, k = m + 1 := ⟨k - 1, by omega⟩
    simp only [spec_l5Lift.l0]
    rw [if_neg (by omega)]
    simp
  | succ d ih =>
    intro k x hd h0 h1 hk
    obtain ⟨k, rfl⟩ : ∃ m, k = m + 1 := ⟨k - 1, by omega⟩
    have e : 3 * x * 3 ^ d = x * 3 ^ (d + 1) := by rw [Int.pow_succ, Int.mul_comm 3 x, Int.mul_assoc, Int.mul_comm 3]
    have h2 : 3 * x ≤ 3 * x * 3 ^ d := by
      have h3 : (1 : Int) ≤ 3 ^ d := by have := Int.pow_pos (n := 3) (m := d) (by omega); omega
      have := Int.mul_le_mul_of_nonneg_left h3 (show 0 ≤ 3 * x by omega)
      omega
    simp only [spec_l5Lift.l0]
    rw [if_pos (by omega), wrapS (x := 3 * x) (by omega) (by omega), show ((d + 1 : Nat) : Int) - 1 = (d : Int) by omega, wrapS (x := (d : Int)) (by omega) (by omega), ih k (3 * x) (by omega) (by omega) (by omega) (by omega), e]
theorem spec_MakePower_tells {j : Nat} (hj : j ≤ 30) (k : Nat) (hk : 31 ≤ k) : spec_MakePower.f k (j : Int) = some ((3 : Int) ^ j) := by
  unfold spec_MakePower.f spec_l5Lift.f
  rw [show mx 0 (mn (j : Int) 30) = (j : Int) by unfold mx mn; split <;> split <;> omega]
  have h1 := pow_lim j
  have h2 := lim_le30 hj
  rw [spec_l5Lift_l j k 1 (by omega) (by omega) (by omega) (by omega), Int.one_mul]
  rfl
end Go.Proofs.Ytgiehdhnhkmjfaa.Plain
/- What the reference's draws tell: the cursor never leaves its bytes, and what is drawn lies in its range. -/
namespace Go.Proofs.Ytgiehdhnhkmjfaa.Plain
open Go.RowKit Go.Proofs.Ytgiehdhnhkmjfaa.X Go.Proofs.YtgiehdhnhkmjfaaW.PrintWords Go.Proofs.YtgiehdhnhkmjfaaW.PrintLast Go.Proofs.YtgiehdhnhkmjfaaW.PrintMore
theorem and255 (x : Int) : 0 ≤ Go.bits .and .i64 x 255 ∧ Go.bits .and .i64 x 255 ≤ 255 := by
  have h : ((BitVec.ofInt 64 x) &&& (BitVec.ofInt 64 255)).toNat ≤ 255 := by
    rw [BitVec.toNat_and]
    exact Nat.le_trans Nat.and_le_right (by decide)
  have e : Go.bits .and .i64 x 255 = IntKind.i64.wrap (((BitVec.ofInt 64 x) &&& (BitVec.ofInt 64 255)).toNat : Int) := rfl
  rw [e, IntKind.wrap_i64]
  omega
theorem spec_l01Byte_tells (l : List Int) (hl : l.length ≤ 1000000000000000000) (i h : Int) (h0 : 0 ≤ i) (h1 : i ≤ l.length) :
    ∃ r i' h', spec_l01Byte.f l i h = some (r, i', h') ∧ 0 ≤ r ∧ r ≤ 255 ∧ 0 ≤ i' ∧ i' ≤ l.length := by
  unfold spec_l01Byte.f
  by_cases c : i < (l.length : Int)
  · rw [if_pos c, if_pos h0]
    have := and255 (wrap64 ((Go.bits .and .i64 (Go.bits .xor .i64 ((wrap64 ((wrap64 (h * 6364136223846793005)) + 1442695040888963407)) / 8589934592) ((wrap64 ((wrap64 (h * 6364136223846793005)) + 1442695040888963407)) / 35184372088832)) 255) + (wrap64 (rd l i))))
    refine ⟨_, _, _, rfl, this.1, this.2, ?_, ?_⟩ <;> rw [wrapS (by omega) (by omega)] <;> omega
  · rw [if_neg c]
    have := and255 (Go.bits .xor .i64 ((wrap64 ((wrap64 (h * 6364136223846793005)) + 1442695040888963407)) / 8589934592) ((wrap64 ((wrap64 (h * 6364136223846793005)) + 1442695040888963407)) / 35184372088832))
    exact ⟨_, _, _, rfl, this.1, this.2, h0, h1⟩
theorem tmod_range {x a : Int} (h0 : 0 ≤ x) (ha : 0 < a) : 0 ≤ Int.tmod x a ∧ Int.tmod x a < a := ⟨Int.tmod_nonneg _ h0, Int.tmod_lt_of_pos _ ha⟩
theorem spec_l01Below_tells (l : List Int) (hl : l.length ≤ 1000000000000000000) (i h a : Int) (h0 : 0 ≤ i) (h1 : i ≤ l.length) (ha : 0 < a) :
    ∃ r i' h', spec_l01Below.f l i h a = some (r, i', h') ∧ 0 ≤ r ∧ r < a ∧ 0 ≤ i' ∧ i' ≤ l.length := by
  unfold spec_l01Below.f
  rw [if_neg (by omega)]
  by_cases c : a ≤ 256
  · rw [if_pos c]
    obtain ⟨r, i', h', e, r0, r1, i0, i1⟩ := spec_l01Byte_tells l hl i h h0 h1
    rw [e]
    simp only [Option.bind_some]
    rw [if_neg (by omega)]
    have := tmod_range r0 ha
    exact ⟨_, _, _, rfl, this.1, this.2, i0, i1⟩
  · rw [if_neg c]
    obtain ⟨r1, i1, g1, e1, ra1, rb1, ia1, ib1⟩ := spec_l01Byte_tells l hl i h h0 h1
    obtain ⟨r2, i2, g2, e2, ra2, rb2, ia2, ib2⟩ := spec_l01Byte_tells l hl i1 g1 ia1 ib1
    obtain ⟨r3, i3, g3, e3, ra3, rb3, ia3, ib3⟩ := spec_l01Byte_tells l hl i2 g2 ia2 ib2
    obtain ⟨r4, i4, g4, e4, ra4, rb4, ia4, ib4⟩ := spec_l01Byte_tells l hl i3 g3 ia3 ib3
    rw [e1]
    simp only [Option.bind_some, e2, e3, e4]
    rw [if_neg (by omega), wrapS (x := r1 * 16777216) (by omega) (by omega), wrapS (x := r2 * 65536) (by omega) (by omega), wrapS (x := r3 * 256) (by omega) (by omega), wrapS (x := r1 * 16777216 + r2 * 65536) (by omega) (by omega), wrapS (x := r1 * 16777216 + r2 * 65536 + r3 * 256) (by omega) (by omega), wrapS (by omega) (by omega)]
    have := tmod_range (x := r1 * 16777216 + r2 * 65536 + r3 * 256 + r4) (by omega) ha
    exact ⟨_, _, _, rfl, this.1, this.2, ia4, ib4⟩
theorem spec_l01New_l (l : List Int) (d : Nat) : ∀ (k i : Nat) (h : Int), i ≤ 4000 → 4000 - i = d → d < k → ∃ h', spec_l01New.l0 k l h (i : Int) = some (l, 0, h') := by
  induction d with
  | zero =>
    intro k i h h1 h2 hk
    obtain ⟨k, rfl⟩ : ∃ m, k = m + 1 := ⟨k - 1, by omega⟩
    simp only [spec_l01New.l0]
    by_cases c : (i : Int) < l.length
    · rw [if_pos c, if_neg (by omega)]; exact ⟨_, rfl⟩
    · rw [if_neg c]; exact ⟨_, rfl⟩
  | succ d ih =>
    intro k i h h1 h2 hk
    obtain ⟨k, rfl⟩ : ∃ m, k = m + 1 := ⟨k - 1, by omega⟩
    simp only [spec_l01New.l0]
    by_cases c : (i : Int) < l.length
    · rw [if_pos c, if_pos (by omega), if_pos (by omega), wrapN (n := 4000) (by omega) (by omega)]
      exact ih k (i + 1) _ (by omega) (by omega) (by omega)
    · rw [if_neg c]; exact ⟨_, rfl⟩
theorem spec_l01New_tells (l : List Int) (k : Nat) (hk : 4001 ≤ k) : ∃ h', spec_l01New.f k l = some (l, 0, h') := by
  unfold spec_l01New.f
  exact spec_l01New_l l 4000 k 0 _ (by omega) rfl (by omega)
theorem trits_set {w : List Int} (h : Trits w) (i : Nat) (a : Int) (ha : -1 ≤ a ∧ a ≤ 1) : Trits (w.set i a) := by
  intro x hx
  rcases List.mem_or_eq_of_mem_set hx with hx | rfl
  · exact h x hx
  · exact ha
theorem trits_snoc {w : List Int} (h : Trits w) (a : Int) (ha : -1 ≤ a ∧ a ≤ 1) : Trits (w ++ [a]) := by
  intro x hx
  rcases List.mem_append.1 hx with hx | hx
  · exact h x hx
  · rw [List.mem_singleton.1 hx]; exact ha
theorem spec_l2Draw_l1 (l : List Int) (i h : Int) (n : Nat) (hn : n ≤ 1000) (d : Nat) : ∀ (k j : Nat) (w : List Int), Trits w → w.length = n → j ≤ n → n - j = d → d < k →
    (∃ v, spec_l2Draw.l1 k w (n : Int) (j : Int) l i h = some (v, i, h) ∧ Trits v ∧ v.length = n) ∧ (∃ v, spec_l2Draw.l2 k w (n : Int) (j : Int) l i h = some (v, i, h) ∧ Trits v ∧ v.length = n) ∧ (∃ v, spec_l2Draw.l3 k w (n : Int) (j : Int) l i h = some (v, i, h) ∧ Trits v ∧ v.length = n) := by
  induction d with
  | zero =>
    intro k j w ht hl h1 h2 hk
    obtain ⟨k, rfl⟩ : ∃ m, k = m + 1 := ⟨k - 1, by omega⟩
    simp only [spec_l2Draw.l1, spec_l2Draw.l2, spec_l2Draw.l3]
    rw [if_neg (by omega), if_neg (by omega), if_neg (by omega)]
    exact ⟨⟨w, rfl, ht, hl⟩, ⟨w, rfl, ht, hl⟩, ⟨w, rfl, ht, hl⟩⟩
  | succ d ih =>
    intro k j w ht hl h1 h2 hk
    obtain ⟨k, rfl⟩ : ∃ m, k = m + 1 := ⟨k - 1, by omega⟩
    have e : wrap64 ((j : Int) + 1) = ((j + 1 : Nat) : Int) := wrapN (n := n) (by omega) (by omega)
    simp only [spec_l2Draw.l1, spec_l2Draw.l2, spec_l2Draw.l3]
    rw [if_pos (by omega), if_pos (by omega), if_pos (by omega), if_pos (by omega), if_pos (by omega), if_pos (by omega), if_pos (by omega), if_pos (by omega), if_pos (by omega), e]
    have g := fun a (ha : -1 ≤ a ∧ a ≤ 1) => ih k (j + 1) (w.set (j : Int).toNat a) (trits_set ht _ a ha) (by rw [List.length_set]; exact hl) (by omega) (by omega) (by omega)
    exact ⟨(g 1 (by omega)).1, (g (-1) (by omega)).2.1, (g 0 (by omega)).2.2⟩
theorem spec_l2Draw_l0 (l : List Int) (hl : l.length ≤ 1000000000000000000) (d : Nat) : ∀ (k : Nat) (w : List Int) (i h : Int), Trits w → 0 ≤ i → i ≤ l.length → w.length + d ≤ 1000 → w.length + 2 * d + 2 < k →
    ∃ v i' h', spec_l2Draw.l0 k w (d : Int) l i h = some (v, i', h') ∧ Trits v ∧ v.length = w.length + d ∧ 0 ≤ i' ∧ i' ≤ l.length := by
  induction d with
  | zero =>
    intro k w i h ht h0 h1 hb hk
    obtain ⟨k, rfl⟩ : ∃ m, k = m + 1 := ⟨k - 1, by omega⟩
    obtain ⟨r, i1, g1, e1, ra1, rb1, ia1, ib1⟩ := spec_l01Below_tells l hl i h 12 h0 h1 (by omega)
    simp only [spec_l2Draw.l0]
    rw [if_neg (by omega), e1]
    simp only [Option.bind_some]
    obtain ⟨⟨v1, f1, t1, n1⟩, ⟨v2, f2, t2, n2⟩, ⟨v3, f3, t3, n3⟩⟩ := spec_l2Draw_l1 l i1 g1 w.length (by omega) w.length k 0 w ht rfl (Nat.zero_le _) rfl (by omega)
    by_cases c0 : r = 0
    · rw [if_pos c0]; exact ⟨v1, i1, g1, f1, t1, by omega, ia1, ib1⟩
    · rw [if_neg c0]
      by_cases c1 : r = 1
      · rw [if_pos c1]; exact ⟨v2, i1, g1, f2, t2, by omega, ia1, ib1⟩
      · rw [if_neg c1]
        by_cases c2 : r = 2
        · rw [if_pos c2]; exact ⟨v3, i1, g1, f3, t3, by omega, ia1, ib1⟩
        · rw [if_neg c2]; exact ⟨w, i1, g1, rfl, ht, by omega, ia1, ib1⟩
  | succ d ih =>
    intro k w i h ht h0 h1 hb hk
    obtain ⟨k, rfl⟩ : ∃ m, k = m + 1 := ⟨k - 1, by omega⟩
    obtain ⟨r, i1, g1, e1, ra1, rb1, ia1, ib1⟩ := spec_l01Below_tells l hl i h 3 h0 h1 (by omega)
    simp only [spec_l2Draw.l0]
    rw [if_pos (by omega), e1]
    simp only [Option.bind_some]
    rw [if_pos (by omega), wrapS (x := r - 1) (by omega) (by omega), show ((d + 1 : Nat) : Int) - 1 = (d : Int) by omega, wrapS (x := (d : Int)) (by omega) (by omega)]
    obtain ⟨v, i', h', f, t, n, ia, ib⟩ := ih k (w ++ [r - 1]) i1 g1 (trits_snoc ht _ (by omega)) ia1 ib1 (by rw [List.length_append]; simp; omega) (by rw [List.length_append]; simp; omega)
    exact ⟨v, i', h', f, t, by rw [n, List.length_append]; simp; omega, ia, ib⟩
theorem spec_l2Draw_tells (l : List Int) (hl : l.length ≤ 1000000000000000000) (i h : Int) (h0 : 0 ≤ i) (h1 : i ≤ l.length) (m : Nat) (hm1 : 1 ≤ m) (hm : m ≤ 30) (k : Nat) (hk : 100 ≤ k) :
    ∃ w i' h', spec_l2Draw.f k l i h (m : Int) = some (w, i', h') ∧ Trits w ∧ 1 ≤ w.length ∧ w.length ≤ m ∧ 0 ≤ i' ∧ i' ≤ l.length := by
  unfold spec_l2Draw.f
  obtain ⟨r, i1, g1, e1, ra1, rb1, ia1, ib1⟩ := spec_l01Below_tells l hl i h m h0 h1 (by omega)
  rw [e1]
  simp only [Option.bind_some]
  obtain ⟨n, rfl⟩ := Int.eq_ofNat_of_zero_le ra1
  obtain ⟨v, i', h', f, t, hn, ia, ib⟩ := spec_l2Draw_l0 l hl (n + 1) k [] i1 g1 (fun x hx => by cases hx) ia1 ib1 (by simp; omega) (by simp; omega)
  rw [show wrap64 (1 + (n : Int)) = ((n + 1 : Nat) : Int) by rw [wrapS (by omega) (by omega)]; omega]
  simp only [List.length_nil, Nat.zero_add] at hn
  exact ⟨v, i', h', f, t, by omega, by omega, ia, ib⟩
theorem spec_MakeWord_tells (l : List Int) (hl : l.length ≤ 1000000000000000000) (m : Nat) (hm1 : 1 ≤ m) (hm : m ≤ 30) (k : Nat) (hk : 4001 ≤ k) :
    ∃ w, spec_MakeWord.f k l (m : Int) = some w ∧ Trits w ∧ 1 ≤ w.length ∧ w.length ≤ m := by
  unfold spec_MakeWord.f
  obtain ⟨h, e⟩ := spec_l01New_tells l k hk
  rw [e]
  simp only [Option.bind_some]
  rw [show mx 1 (mn (m : Int) 30) = (m : Int) by unfold mx mn; split <;> split <;> omega]
  obtain ⟨w, i', h', f, t, n1, n2, _⟩ := spec_l2Draw_tells l hl 0 h (by omega) (by omega) m hm1 hm k (by omega)
  rw [f]
  exact ⟨w, rfl, t, n1, n2⟩
end Go.Proofs.Ytgiehdhnhkmjfaa.Plain
/- What the program's functions on words tell: each printed function, from some number of rounds on, is the plain one. -/
namespace Go.Proofs.Ytgiehdhnhkmjfaa.Plain
open Go.RowKit Go.Proofs.Ytgiehdhnhkmjfaa.X Go.Proofs.YtgiehdhnhkmjfaaW.PrintWords Go.Proofs.YtgiehdhnhkmjfaaW.PrintLast Go.Proofs.YtgiehdhnhkmjfaaW.PrintMore
theorem impl_carried_tells (n : Int) (h1 : -4 ≤ n) (h2 : n ≤ 4) : impl_carried.f n = some (if n > 1 then (n - 3, 1) else if n < -1 then (n + 3, -1) else (n, 0)) := by
  unfold impl_carried.f
  by_cases c1 : n > 1
  · rw [if_pos c1, if_pos c1, wrapS (by omega) (by omega)]
  · rw [if_neg c1, if_neg c1]
    by_cases c2 : n < -1
    · rw [if_pos c2, if_pos c2, wrapS (by omega) (by omega)]
    · rw [if_neg c2, if_neg c2]
theorem impl_carried_dig (n : Int) : ∃ q, impl_carried.f (Int.tmod n 3) = some (dig n, q) := by
  have h3 := Int.tmod_lt_of_pos n (b := 3) (by omega)
  have h4 : -3 < n.tmod 3 := Int.lt_tmod_of_pos n (by omega)
  rw [impl_carried_tells _ (by omega) (by omega)]
  unfold dig
  by_cases c1 : Int.tmod n 3 > 1
  · rw [if_pos c1, if_pos c1]; exact ⟨_, rfl⟩
  · rw [if_neg c1, if_neg c1]
    by_cases c2 : Int.tmod n 3 < -1
    · rw [if_pos c2, if_pos c2]; exact ⟨_, rfl⟩
    · rw [if_neg c2, if_neg c2]; exact ⟨_, rfl⟩
theorem impl_power_l (n : Nat) (hn : n ≤ 30) (d : Nat) : ∀ (k i : Nat), i ≤ n → n - i = d → d < k → impl_power.l0 k ((3 : Int) ^ i) (n : Int) (i : Int) = some ((3 : Int) ^ n) := by
  induction d with
  | zero =>
    intro k i h1 h2 hk
    obtain ⟨k, rfl⟩ : ∃ m, k = m + 1 := ⟨k - 1, by omega⟩
    obtain rfl : i = n := by omega
    simp only [impl_power.l0]
    rw [if_neg (by omega)]
  | succ d ih =>
    intro k i h1 h2 hk
    obtain ⟨k, rfl⟩ : ∃ m, k = m + 1 := ⟨k - 1, by omega⟩
    have h3 := pow_lim i
    have h4 := lim_le30 (k := i) (by omega)
    have h5 := lim_nonneg i
    simp only [impl_power.l0]
    rw [if_pos (by omega), show wrap64 ((3 : Int) ^ i * 3) = 3 ^ (i + 1) by rw [Int.pow_succ]; exact wrapS (by omega) (by omega), wrapN (n := n) (by omega) (by omega)]
    exact ih k (i + 1) (by omega) (by omega) (by omega)
theorem impl_power_at {n : Nat} (hn : n ≤ 30) (k : Nat) (hk : 31 ≤ k) : impl_power.f k (n : Int) = some ((3 : Int) ^ n) := by
  have h := impl_power_l n hn n k 0 (Nat.zero_le _) rfl (by omega)
  unfold impl_power.f
  exact h
theorem impl_LimitOf_at {n : Nat} (h1 : 1 ≤ n) (h2 : n ≤ 30) (k : Nat) (hk : 31 ≤ k) : impl_LimitOf.f k (n : Int) = some (lim n) := by
  have h3 := pow_lim n
  have h4 := lim_le30 h2
  have h5 := lim_nonneg n
  unfold impl_LimitOf.f
  rw [if_neg (by omega), if_neg (by omega), impl_power_at h2 k hk]
  simp only [Option.bind_some]
  rw [h3, wrapS (x := 2 * lim n + 1 - 1) (by omega) (by omega), show 2 * lim n + 1 - 1 = 2 * lim n by omega, Int.mul_tdiv_cancel_left _ (by omega), wrapS (by omega) (by omega)]
theorem impl_fits_at (n : Int) {j : Nat} (h1 : 1 ≤ j) (h2 : j ≤ 30) (k : Nat) (hk : 31 ≤ k) : impl_fits.f k n (j : Int) = some (decide (-lim j ≤ n ∧ n ≤ lim j)) := by
  have h4 := lim_le30 h2
  have h5 := lim_nonneg j
  unfold impl_fits.f
  rw [impl_LimitOf_at h1 h2 k hk]
  simp only [Option.bind_some]
  rw [wrapS (by omega) (by omega)]
  by_cases h : n ≥ -lim j
  · rw [if_pos h]
    congr 1
    simp [show -lim j ≤ n from h]
  · rw [if_neg h, decide_eq_false (fun hh => h hh.1)]
theorem impl_WordOf_l (j : Nat) (hj : j ≤ 1000) (d : Nat) : ∀ (k i : Nat) (n : Int) (acc : List Int), -1000000000000000000 ≤ n → n ≤ 1000000000000000000 → acc.length = i → i ≤ j → j - i = d → d < k →
    impl_WordOf.l0 k n acc (j : Int) (i : Int) = some (acc ++ word d n, true) := by
  induction d with
  | zero =>
    intro k i n acc hn1 hn2 hacc h1 h2 hk
    obtain ⟨k, rfl⟩ : ∃ m, k = m + 1 := ⟨k - 1, by omega⟩
    simp only [impl_WordOf.l0]
    rw [if_neg (by omega)]
    simp [word]
  | succ d ih =>
    intro k i n acc hn1 hn2 hacc h1 h2 hk
    obtain ⟨k, rfl⟩ : ∃ m, k = m + 1 := ⟨k - 1, by omega⟩
    have hr := rest_eq n
    have hd := dig_range n
    obtain ⟨q, hq⟩ := impl_carried_dig n
    simp only [impl_WordOf.l0]
    rw [if_pos (by omega), hq]
    simp only [Option.bind_some]
    rw [if_pos (by omega), wrapS (x := n - dig n) (by omega) (by omega), wrapN (n := j) (by omega) (by omega)]
    show impl_WordOf.l0 k (wrap64 (rest n)) _ _ _ = _
    rw [wrapS (by omega) (by omega), ih k (i + 1) (rest n) (acc ++ [dig n]) (by omega) (by omega) (by simp [hacc]) (by omega) (by omega) (by omega)]
    simp [word, List.append_assoc]
theorem impl_WordOf_at {n : Int} {j : Nat} (h1 : 1 ≤ j) (h2 : j ≤ 30) (k : Nat) (hk : 33 ≤ k) : impl_WordOf.f k n (j : Int) = some (if -lim j ≤ n ∧ n ≤ lim j then (word j n, true) else ([], false)) := by
  have h3 := lim_le30 h2
  obtain ⟨k, rfl⟩ : ∃ m, k = m + 1 := ⟨k - 1, by omega⟩
  unfold impl_WordOf.f
  rw [if_neg (by omega), if_neg (by omega), impl_fits_at n h1 h2 _ (by omega)]
  simp only [Option.bind_some, impl_WordOf.j0]
  by_cases h : -lim j ≤ n ∧ n ≤ lim j
  · rw [decide_eq_true h, if_neg (by simp), if_pos h]
    exact impl_WordOf_l j (by omega) j k 0 n [] (by omega) (by omega) rfl (Nat.zero_le _) rfl (by omega)
  · rw [decide_eq_false h, if_pos (by simp), if_neg h]
theorem impl_LengthOf_l (n : Int) (d : Nat) : ∀ (k j : Nat), 1 ≤ j → j + d = 31 → 31 + d < k → impl_LengthOf.l0 k n (j : Int) = some ((lenFrom n d j : Nat) : Int) := by
  induction d with
  | zero =>
    intro k j h1 h2 hk
    obtain ⟨k, rfl⟩ : ∃ m, k = m + 1 := ⟨k - 1, by omega⟩
    simp only [impl_LengthOf.l0]
    rw [if_neg (by omega)]
    rfl
  | succ d ih =>
    intro k j h1 h2 hk
    obtain ⟨k, rfl⟩ : ∃ m, k = m + 1 := ⟨k - 1, by omega⟩
    simp only [impl_LengthOf.l0]
    rw [if_pos (by omega), impl_fits_at n h1 (by omega) k (by omega)]
    simp only [Option.bind_some]
    unfold lenFrom
    by_cases h : -lim j ≤ n ∧ n ≤ lim j
    · rw [if_pos (by simpa using h), if_pos h]
    · rw [if_neg (by simpa using h), if_neg h, wrapN (n := 31) (by omega) (by omega)]
      exact ih k (j + 1) (by omega) (by omega) (by omega)
theorem impl_LengthOf_tells (n : Int) (k : Nat) (hk : 62 ≤ k) : impl_LengthOf.f k n = some ((len n : Nat) : Int) := by
  unfold impl_LengthOf.f
  exact impl_LengthOf_l n 30 k 1 (by omega) rfl (by omega)
end Go.Proofs.Ytgiehdhnhkmjfaa.Plain
/- slices.Concat of []int is the lists' concatenation, where it is not too long. -/
namespace Go.Proofs.Ytgiehdhnhkmjfaa.Plain
open Go.RowKit Go.Proofs.Ytgiehdhnhkmjfaa.X Go.Proofs.YtgiehdhnhkmjfaaW.PrintWords Go.Proofs.YtgiehdhnhkmjfaaW.PrintLast Go.Proofs.YtgiehdhnhkmjfaaW.PrintMore
theorem concat_l1 (ls : List (List Int)) (hn : ls.length ≤ 1000000) (d : Nat) : ∀ (k i : Nat) (acc : List Int), acc.length + (ls.drop i).flatten.length ≤ 1000000000 → i ≤ ls.length → ls.length - i = d → d < k →
    slices_Concat_int_int.l1 k acc ls (ls.length : Int) (i : Int) = some (acc ++ (ls.drop i).flatten) := by
  induction d with
  | zero =>
    intro k i acc hb h1 h2 hk
    obtain ⟨k, rfl⟩ : ∃ m, k = m + 1 := ⟨k - 1, by omega⟩
    simp only [slices_Concat_int_int.l1]
    rw [if_neg (by omega), List.drop_of_length_le (by omega)]
    simp
  | succ d ih =>
    intro k i acc hb h1 h2 hk
    obtain ⟨k, rfl⟩ : ∃ m, k = m + 1 := ⟨k - 1, by omega⟩
    have hi : i < ls.length := by omega
    have e : ls.getD (i : Int).toNat ([] : List Int) = ls[i] := by rw [Int.toNat_natCast, List.getD_eq_getElem?_getD, List.getElem?_eq_getElem hi]; rfl
    rw [List.drop_eq_getElem_cons hi, List.flatten_cons, List.length_append] at hb
    simp only [slices_Concat_int_int.l1]
    rw [if_pos (by omega), if_pos (by omega), if_pos (by omega)]
    show (if acc.length + (ls.getD (i : Int).toNat ([] : List Int)).length < _ then slices_Concat_int_int.l1 k (acc ++ ls.getD (i : Int).toNat ([] : List Int)) _ _ _ else none) = _
    rw [e, if_pos (by omega), wrapN hi (by omega), ih k (i + 1) _ (by rw [List.length_append]; omega) (by omega) (by omega) (by omega), List.drop_eq_getElem_cons hi, List.flatten_cons, List.append_assoc]
theorem concat_l0 (ls : List (List Int)) (hn : ls.length ≤ 1000000) (hb : ls.flatten.length ≤ 1000000000) (d : Nat) : ∀ (k i : Nat) (s : Int), 0 ≤ s → s + (ls.drop i).flatten.length = ls.flatten.length → i ≤ ls.length → ls.length - i = d → d + ls.length + 1 < k →
    slices_Concat_int_int.l0 k ls s ls (ls.length : Int) (i : Int) = some ls.flatten := by
  induction d with
  | zero =>
    intro k i s hs0 hs h1 h2 hk
    obtain ⟨k, rfl⟩ : ∃ m, k = m + 1 := ⟨k - 1, by omega⟩
    rw [List.drop_of_length_le (by omega)] at hs
    simp only [List.flatten_nil, List.length_nil] at hs
    simp only [slices_Concat_int_int.l0]
    rw [if_neg (by omega)]
    unfold slices_Grow_int_int.f
    rw [if_pos ⟨rfl, hs0, by omega⟩]
    simp only [Option.bind_some]
    have h := concat_l1 ls hn ls.length k 0 [] (by rw [List.drop_zero, List.length_nil]; omega) (Nat.zero_le _) rfl (by omega)
    rw [List.drop_zero, List.nil_append] at h
    exact h
  | succ d ih =>
    intro k i s hs0 hs h1 h2 hk
    obtain ⟨k, rfl⟩ : ∃ m, k = m + 1 := ⟨k - 1, by omega⟩
    have hi : i < ls.length := by omega
    have e : ls.getD (i : Int).toNat ([] : List Int) = ls[i] := by rw [Int.toNat_natCast, List.getD_eq_getElem?_getD, List.getElem?_eq_getElem hi]; rfl
    rw [List.drop_eq_getElem_cons hi, List.flatten_cons, List.length_append] at hs
    simp only [slices_Concat_int_int.l0]
    rw [if_pos (by omega), if_pos (by omega), if_pos (by omega)]
    show (if wrap64 (s + ((ls.getD (i : Int).toNat ([] : List Int)).length : Int)) < 0 then none else slices_Concat_int_int.l0 k ls (wrap64 (s + ((ls.getD (i : Int).toNat ([] : List Int)).length : Int))) ls _ _) = _
    rw [e, wrapS (x := s + _) (by omega) (by omega), if_neg (by omega), wrapN hi (by omega)]
    exact ih k (i + 1) _ (by omega) (by omega) (by omega) (by omega) (by omega)
theorem concat_tells (ls : List (List Int)) (hn : ls.length ≤ 1000000) (hb : ls.flatten.length ≤ 1000000000) (k : Nat) (hk : 2 * ls.length + 1 < k) : slices_Concat_int_int.f k ls = some ls.flatten := by
  unfold slices_Concat_int_int.f
  exact concat_l0 ls hn hb ls.length k 0 0 (Int.le_refl _) (by rw [List.drop_zero]; omega) (Nat.zero_le _) rfl (by omega)
end Go.Proofs.Ytgiehdhnhkmjfaa.Plain
/- The law FnWeighed over numbers and lists: weights of powers of 3 weigh a thing, and the balance tells what is lighter or heavier by 1. -/
namespace Go.Proofs.Ytgiehdhnhkmjfaa.Plain
open Go.RowKit Go.Proofs.Ytgiehdhnhkmjfaa.X Go.Proofs.YtgiehdhnhkmjfaaW.PrintWords Go.Proofs.YtgiehdhnhkmjfaaW.PrintLast Go.Proofs.YtgiehdhnhkmjfaaW.PrintMore
/-- The places, from i on, that hold c. -/
def idx (c : Int) : List Int → Nat → List Int
  | [], _ => []
  | a :: r, i => if a = c then (i : Int) :: idx c r (i + 1) else idx c r (i + 1)
def sumP : List Int → Int
  | [] => 0
  | i :: r => 3 ^ i.toNat + sumP r
theorem sumP_nonneg : ∀ l, 0 ≤ sumP l
  | [] => Int.le_refl _
  | i :: r => by
    have := sumP_nonneg r
    have h : (0 : Int) < 3 ^ i.toNat := Int.pow_pos (by omega)
    simp only [sumP]
    omega
theorem idx_length (c : Int) : ∀ (w : List Int) (i : Nat), (idx c w i).length ≤ w.length
  | [], _ => Nat.le_refl _
  | a :: r, i => by
    have := idx_length c r (i + 1)
    unfold idx
    split <;> simp only [List.length_cons] <;> omega
theorem mem_idx (c : Int) : ∀ (w : List Int) (i : Nat) (x : Int), x ∈ idx c w i → ∃ j : Nat, x = (j : Int) ∧ i ≤ j ∧ j < i + w.length ∧ w[j - i]? = some c
  | [], _, _, h => by cases h
  | a :: r, i, x, h => by
    unfold idx at h
    have tail : x ∈ idx c r (i + 1) → ∃ j : Nat, x = (j : Int) ∧ i ≤ j ∧ j < i + (a :: r).length ∧ (a :: r)[j - i]? = some c := by
      intro h
      obtain ⟨j, h1, h2, h3, h4⟩ := mem_idx c r (i + 1) x h
      refine ⟨j, h1, by omega, by rw [List.length_cons]; omega, ?_⟩
      rw [show j - i = (j - (i + 1)) + 1 by omega, List.getElem?_cons_succ]
      exact h4
    split at h
    · rename_i e
      rcases List.mem_cons.1 h with rfl | h
      · exact ⟨i, rfl, Nat.le_refl _, by rw [List.length_cons]; omega, by rw [Nat.sub_self, List.getElem?_cons_zero, e]⟩
      · exact tail h
    · exact tail h
theorem idx_nodup (c : Int) : ∀ (w : List Int) (i : Nat), (idx c w i).Nodup
  | [], _ => List.nodup_nil
  | a :: r, i => by
    unfold idx
    split
    · refine List.nodup_cons.2 ⟨fun h => ?_, idx_nodup c r (i + 1)⟩
      obtain ⟨j, h1, h2, _⟩ := mem_idx c r (i + 1) _ h
      omega
    · exact idx_nodup c r (i + 1)
theorem idx_sum : ∀ (w : List Int) (i : Nat), Trits w → sumP (idx 1 w i) - sumP (idx (-1) w i) = 3 ^ i * val w ∧ sumP (idx 1 w i) + sumP (idx (-1) w i) ≤ 3 ^ i * lim w.length
  | [], _, _ => by simp [idx, sumP, val, lim]
  | a :: r, i, h => by
    obtain ⟨h1, h2⟩ := idx_sum r (i + 1) (fun x hx => h x (List.mem_cons_of_mem _ hx))
    have ha := h a List.mem_cons_self
    have e1 : (3 : Int) ^ (i + 1) * val r = 3 ^ i * (3 * val r) := by rw [Int.pow_succ, Int.mul_assoc]
    have e2 : (3 : Int) ^ (i + 1) * lim r.length = 3 ^ i * (3 * lim r.length) := by rw [Int.pow_succ, Int.mul_assoc]
    have e3 : (3 : Int) ^ i * val (a :: r) = 3 ^ i * a + 3 ^ i * (3 * val r) := by rw [← Int.mul_add]; rfl
    have e4 : (3 : Int) ^ i * lim (a :: r).length = 3 ^ i * (3 * lim r.length) + 3 ^ i := by
      rw [List.length_cons]
      show (3 : Int) ^ i * (3 * lim r.length + 1) = _
      rw [Int.mul_add, Int.mul_one]
    have hp : (0 : Int) < 3 ^ i := Int.pow_pos (by omega)
    rw [e1] at h1
    rw [e2] at h2
    rw [e3, e4]
    rcases (show a = -1 ∨ a = 0 ∨ a = 1 by omega) with rfl | rfl | rfl
    · simp only [idx, show ¬ ((-1 : Int) = 1) by decide, if_false, if_true, sumP, Int.toNat_natCast]
      omega
    · simp only [idx, show ¬ ((0 : Int) = 1) by decide, show ¬ ((0 : Int) = -1) by decide, if_false]
      omega
    · simp only [idx, show ¬ ((1 : Int) = -1) by decide, if_false, if_true, sumP, Int.toNat_natCast]
      omega
theorem idx_weight : ∀ (w : List Int) (i : Nat), Trits w → (((idx (-1) w i).length : Int) + (idx 1 w i).length) = weight w
  | [], _, _ => rfl
  | a :: r, i, h => by
    have h1 := idx_weight r (i + 1) (fun x hx => h x (List.mem_cons_of_mem _ hx))
    have ha := h a List.mem_cons_self
    rcases (show a = -1 ∨ a = 0 ∨ a = 1 by omega) with rfl | rfl | rfl
    · simp only [idx, show ¬ ((-1 : Int) = 1) by decide, if_false, if_true, weight, List.length_cons]
      omega
    · simp only [idx, show ¬ ((0 : Int) = 1) by decide, show ¬ ((0 : Int) = -1) by decide, if_false, weight]
      omega
    · simp only [idx, show ¬ ((1 : Int) = -1) by decide, if_false, if_true, weight, List.length_cons]
      omega
theorem weigh_l (w : List Int) (hl : w.length ≤ 30) (d : Nat) : ∀ (k i : Nat) (L R : List Int), L.length ≤ i → R.length ≤ i → i ≤ w.length → w.length - i = d → d < k →
    impl_WeighThing.l0 k w (w.length : Int) (i : Int) L R = some (L ++ idx (-1) (w.drop i) i, R ++ idx 1 (w.drop i) i, true) := by
  induction d with
  | zero =>
    intro k i L R hL hR h1 h2 hk
    obtain ⟨k, rfl⟩ : ∃ m, k = m + 1 := ⟨k - 1, by omega⟩
    simp only [impl_WeighThing.l0]
    rw [if_neg (by omega), List.drop_of_length_le (by omega)]
    simp [idx]
  | succ d ih =>
    intro k i L R hL hR h1 h2 hk
    obtain ⟨k, rfl⟩ : ∃ m, k = m + 1 := ⟨k - 1, by omega⟩
    have hi : i < w.length := by omega
    simp only [impl_WeighThing.l0]
    rw [if_pos (by omega), if_pos (by omega), if_pos (by omega), rd_at hi, wrapN hi (by omega), List.drop_eq_getElem_cons hi]
    unfold idx
    by_cases c1 : w[i] = 1
    · rw [if_pos c1, if_pos (by omega), ih k (i + 1) L (R ++ [(i : Int)]) (by omega) (by simp; omega) (by omega) (by omega) (by omega), if_neg (by omega), if_pos c1]
      simp
    · rw [if_neg c1]
      by_cases c2 : w[i] = -1
      · rw [if_pos c2, if_pos (by omega), ih k (i + 1) (L ++ [(i : Int)]) R (by simp; omega) (by omega) (by omega) (by omega) (by omega), if_pos c2, if_neg c1]
        simp
      · rw [if_neg c2, ih k (i + 1) L R (by omega) (by omega) (by omega) (by omega) (by omega), if_neg c2, if_neg c1]
theorem weigh_tells {n : Int} (h : 0 ≤ n ∧ n ≤ lim 30) (k : Nat) (hk : 35 ≤ k) : impl_WeighThing.f k n = some (idx (-1) (word 30 n) 0, idx 1 (word 30 n) 0, true) := by
  obtain ⟨k, rfl⟩ : ∃ m, k = m + 1 := ⟨k - 1, by omega⟩
  have h2 := lim_nonneg 30
  have e := impl_WordOf_at (n := n) (j := 30) (by omega) (by omega) (k + 1) (by omega)
  rw [if_pos (by omega)] at e
  unfold impl_WeighThing.f
  rw [show (30 : Int) = ((30 : Nat) : Int) from rfl, e]
  simp only [Option.bind_some, if_true, impl_WeighThing.j0]
  rw [decide_eq_false (by omega), if_neg (by simp)]
  have h3 := weigh_l (word 30 n) (by rw [word_length]; exact Nat.le_refl _) 30 k 0 [] [] (Nat.le_refl _) (Nat.le_refl _) (Nat.zero_le _) (by rw [word_length]) (by omega)
  rw [List.drop_zero, List.nil_append, List.nil_append] at h3
  exact h3
theorem weigh_neg {n : Int} (h : -lim 30 ≤ n ∧ n < 0) (k : Nat) (hk : 35 ≤ k) : impl_WeighThing.f k n = some ([], [], false) := by
  obtain ⟨k, rfl⟩ : ∃ m, k = m + 1 := ⟨k - 1, by omega⟩
  have h2 := lim_nonneg 30
  have e := impl_WordOf_at (n := n) (j := 30) (by omega) (by omega) (k + 1) (by omega)
  rw [if_pos (by omega)] at e
  unfold impl_WeighThing.f
  rw [show (30 : Int) = ((30 : Nat) : Int) from rfl, e]
  simp only [Option.bind_some, if_true, impl_WeighThing.j0]
  rw [decide_eq_true (by omega), if_pos rfl]
theorem seen_ok : ∀ (l : List Int) (s : List Bool), l.Nodup → (∀ x ∈ l, 0 ≤ x ∧ x < 30) → (∀ x ∈ l, s.getD x.toNat false = false) → ∃ t, seenF l s = some t
  | [], s, _, _, _ => ⟨s, rfl⟩
  | x :: r, s, hn, hr, hs => by
    have hx := hr x List.mem_cons_self
    have hsx := hs x List.mem_cons_self
    obtain ⟨hxr, hn'⟩ := List.nodup_cons.1 hn
    unfold seenF
    rw [if_neg (by omega), if_neg (by omega), hsx, if_neg (by simp)]
    refine seen_ok r _ hn' (fun y hy => hr y (List.mem_cons_of_mem _ hy)) (fun y hy => ?_)
    have hy1 := hr y (List.mem_cons_of_mem _ hy)
    have hne : x ≠ y := fun e => hxr (e ▸ hy)
    have hsy := hs y (List.mem_cons_of_mem _ hy)
    rw [List.getD_eq_getElem?_getD, List.getElem?_set_ne (by omega), ← List.getD_eq_getElem?_getD]
    exact hsy
theorem addF_eq : ∀ (l : List Int) (n : Int), -4000000000000000000 ≤ n → n + sumP l ≤ 4000000000000000000 → addF l n = n + sumP l
  | [], n, _, _ => by simp [addF, sumP]
  | i :: r, n, h1, h2 => by
    have h3 := sumP_nonneg r
    have hp : (0 : Int) < 3 ^ i.toNat := Int.pow_pos (by omega)
    simp only [sumP] at h2 ⊢
    unfold addF
    rw [wrapS (by omega) (by omega), addF_eq r _ (by omega) (by omega)]
    omega
theorem subF_eq : ∀ (l : List Int) (n : Int), n ≤ 4000000000000000000 → -4000000000000000000 ≤ n - sumP l → subF l n = n - sumP l
  | [], n, _, _ => by simp [subF, sumP]
  | i :: r, n, h1, h2 => by
    have h3 := sumP_nonneg r
    have hp : (0 : Int) < 3 ^ i.toNat := Int.pow_pos (by omega)
    simp only [sumP] at h2 ⊢
    unfold subF
    rw [wrapS (by omega) (by omega), subF_eq r _ (by omega) (by omega)]
    omega
/-- The balance with the weights of the word w, at a thing of the weight n. -/
theorem balance_tells {w : List Int} (hw : Trits w) (hl : w.length ≤ 30) {n : Int} (hn : -lim 30 ≤ n ∧ n ≤ lim 30) (k : Nat) (hk : 70 ≤ k) :
    impl_BalanceOf.f k (idx (-1) w 0) (idx 1 w 0) n = some (signI (n - val w), true) := by
  have l1 := idx_length (-1) w 0
  have l2 := idx_length 1 w 0
  obtain ⟨g1, g2⟩ := idx_sum w 0 hw
  have g3 := lim_le30 hl
  have g4 := sumP_nonneg (idx 1 w 0)
  have g5 := sumP_nonneg (idx (-1) w 0)
  have g6 := val_bound hw
  rw [lim30] at hn
  simp only [Int.pow_zero, Int.one_mul] at g1 g2
  unfold impl_BalanceOf.f
  rw [impl_LengthOf_tells n k (by omega)]
  simp only [Option.bind_some]
  have hlen := len_spec (n := n) (by rw [lim30]; exact hn)
  rw [if_neg (by omega), concat_tells [idx (-1) w 0, idx 1 w 0] (by simp) (by simp; omega) k (by simp; omega)]
  simp only [Option.bind_some, List.flatten_cons, List.flatten_nil, List.append_nil]
  rw [if_pos ⟨trivial, by rw [List.length_append]; omega⟩]
  obtain ⟨t, ht⟩ := seen_ok (idx (-1) w 0 ++ idx 1 w 0) (List.replicate 30 false) (by
      refine List.nodup_append.2 ⟨idx_nodup _ _ _, idx_nodup _ _ _, fun x hx y hy e => ?_⟩
      subst e
      obtain ⟨j, e1, _, _, h1⟩ := mem_idx _ _ _ _ hx
      obtain ⟨j', e2, _, _, h2⟩ := mem_idx _ _ _ _ hy
      obtain rfl : j = j' := by omega
      rw [h1] at h2
      simp at h2) (fun x hx => by
      rcases List.mem_append.1 hx with hx | hx <;> (obtain ⟨j, e1, _, h3, _⟩ := mem_idx _ _ _ _ hx; omega)) (fun x _ => by
      rw [List.getD_eq_getElem?_getD, List.getElem?_replicate]
      split <;> rfl)
  rw [ht]
  simp only
  rw [addF_eq _ _ (by omega) (by omega), subF_eq _ _ (by omega) (by omega)]
  congr 3
  omega
theorem law_l1 (l : List Int) (hl : l.length ≤ 30) (hr : ∀ x ∈ l, 0 ≤ x ∧ x < 30) (n a b c : Int) (A B C : Bool) (L R : List Int) (res : Option Bool) (d : Nat) : ∀ (k i : Nat) (s : Int), -4000000000000000000 ≤ s - sumP (l.drop i) → s ≤ 4000000000000000000 → i ≤ l.length → l.length - i = d → d + 100 ≤ k →
    (∀ k, 99 ≤ k → laws_FnWeighed.l1 k n a A b B c C (s - sumP (l.drop i)) l (l.length : Int) (l.length : Int) L R = res) → laws_FnWeighed.l1 k n a A b B c C s l (l.length : Int) (i : Int) L R = res := by
  induction d with
  | zero =>
    intro k i s h0 h0' h1 h2 hk h
    obtain rfl : i = l.length := by omega
    rw [List.drop_length] at h
    simp only [sumP, Int.sub_zero] at h
    exact h k (by omega)
  | succ d ih =>
    intro k i s h0 h0' h1 h2 hk h
    obtain ⟨k, rfl⟩ : ∃ m, k = m + 1 := ⟨k - 1, by omega⟩
    have hi : i < l.length := by omega
    have hx := hr l[i] (List.getElem_mem hi)
    obtain ⟨j, hj⟩ := Int.eq_ofNat_of_zero_le hx.1
    have hp : (0 : Int) < 3 ^ j := Int.pow_pos (by omega)
    have hs := sumP_nonneg (l.drop (i + 1))
    rw [List.drop_eq_getElem_cons hi] at h h0
    simp only [sumP, hj, Int.toNat_natCast] at h h0
    rw [laws_FnWeighed.l1, if_pos (by omega), if_pos (by omega), if_pos (by omega), rd_at hi, hj, spec_MakePower_tells (by omega) k (by omega)]
    simp only [Option.bind_some]
    rw [wrapS (x := s - 3 ^ j) (by omega) (by omega), wrapN hi (by omega)]
    refine ih k (i + 1) _ (by omega) (by omega) (by omega) (by omega) (by omega) ?_
    rw [show s - 3 ^ j - sumP (l.drop (i + 1)) = s - (3 ^ j + sumP (l.drop (i + 1))) by omega]
    exact h
theorem law_l0 (l : List Int) (hl : l.length ≤ 30) (hr : ∀ x ∈ l, 0 ≤ x ∧ x < 30) (n a b c : Int) (A B C : Bool) (L R : List Int) (res : Option Bool) (d : Nat) : ∀ (k i : Nat) (s : Int), s + sumP (l.drop i) ≤ 4000000000000000000 → -4000000000000000000 ≤ s → i ≤ l.length → l.length - i = d → d + 200 ≤ k →
    (∀ k, 199 ≤ k → laws_FnWeighed.l0 k n a A b B c C (s + sumP (l.drop i)) l (l.length : Int) (l.length : Int) L R = res) → laws_FnWeighed.l0 k n a A b B c C s l (l.length : Int) (i : Int) L R = res := by
  induction d with
  | zero =>
    intro k i s h0 h0' h1 h2 hk h
    obtain rfl : i = l.length := by omega
    rw [List.drop_length] at h
    simp only [sumP, Int.add_zero] at h
    exact h k (by omega)
  | succ d ih =>
    intro k i s h0 h0' h1 h2 hk h
    obtain ⟨k, rfl⟩ : ∃ m, k = m + 1 := ⟨k - 1, by omega⟩
    have hi : i < l.length := by omega
    have hx := hr l[i] (List.getElem_mem hi)
    obtain ⟨j, hj⟩ := Int.eq_ofNat_of_zero_le hx.1
    have hp : (0 : Int) < 3 ^ j := Int.pow_pos (by omega)
    have hs := sumP_nonneg (l.drop (i + 1))
    rw [List.drop_eq_getElem_cons hi] at h h0
    simp only [sumP, hj, Int.toNat_natCast] at h h0
    rw [laws_FnWeighed.l0, if_pos (by omega), if_pos (by omega), if_pos (by omega), rd_at hi, hj, spec_MakePower_tells (by omega) k (by omega)]
    simp only [Option.bind_some]
    rw [wrapS (x := s + 3 ^ j) (by omega) (by omega), wrapN hi (by omega)]
    refine ih k (i + 1) _ (by omega) (by omega) (by omega) (by omega) (by omega) ?_
    rw [show s + 3 ^ j + sumP (l.drop (i + 1)) = s + (3 ^ j + sumP (l.drop (i + 1))) by omega]
    exact h
end Go.Proofs.Ytgiehdhnhkmjfaa.Plain
namespace Go.Proofs.Ytgiehdhnhkmjfaa.Pure
open Go.RowKit Go.Proofs.Ytgiehdhnhkmjfaa.X Go.Proofs.Ytgiehdhnhkmjfaa.Plain Go.Proofs.YtgiehdhnhkmjfaaW.PrintWords Go.Proofs.YtgiehdhnhkmjfaaW.PrintLast Go.Proofs.YtgiehdhnhkmjfaaW.PrintMore
theorem FnWeighed : laws_FnWeighed.Pure := by
  intro l0 hl1 hl2 _
  obtain ⟨K, hK⟩ : ∃ K : Nat, 5000 ≤ K := ⟨5000, Nat.le_refl _⟩
  refine ⟨K, ?_⟩
  unfold laws_FnWeighed.f
  by_cases hbig : (l0.length : Int) > 1048576
  · rw [if_pos hbig]
  · rw [if_neg hbig]
    obtain ⟨w, hw, ht, hw1, hw2⟩ := spec_MakeWord_tells l0 (by omega) 29 (by omega) (by omega) K (by omega)
    rw [show (29 : Int) = ((29 : Nat) : Int) from rfl, hw]
    simp only [Option.bind_some]
    rw [spec_ValueOf_tells w ((wordB_iff w).2 ⟨hw1, by omega, ht⟩) K (by omega)]
    simp only [Option.bind_some]
    have hb := val_bound ht
    have hb2 : lim w.length ≤ lim 29 := lim_mono hw2
    have e29 : lim 29 = 34315188682441 := by decide
    have e30 := lim30
    generalize hn : val w = n at hb
    by_cases hneg : n < 0
    · rw [weigh_neg (by omega) K (by omega)]
      simp only [Option.bind_some]
      rw [decide_eq_false (by omega)]
      rfl
    · rw [weigh_tells (by omega) K (by omega)]
      simp only [Option.bind_some]
      rw [decide_eq_true (by omega), if_neg (by simp), if_pos trivial]
      have ht30 := word_trits 30 n
      have hl30 := word_length 30 n
      have hv30 := val_word 30 n (by omega)
      rw [balance_tells ht30 (by omega) (by omega) K (by omega), wrapS (x := n + 1) (by omega) (by omega), balance_tells ht30 (by omega) (by omega) K (by omega), wrapS (x := n - 1) (by omega) (by omega), balance_tells ht30 (by omega) (by omega) K (by omega)]
      simp only [Option.bind_some]
      rw [hv30, show n - n = 0 by omega, show n + 1 - n = 1 by omega, show n - 1 - n = -1 by omega, show signI 0 = 0 from rfl, show signI 1 = 1 from rfl, show signI (-1) = -1 from rfl]
      obtain ⟨s1, s2⟩ := idx_sum (word 30 n) 0 ht30
      have s3 := sumP_nonneg (idx 1 (word 30 n) 0)
      have s4 := sumP_nonneg (idx (-1) (word 30 n) 0)
      have s5 := idx_weight (word 30 n) 0 ht30
      have il1 := idx_length (-1) (word 30 n) 0
      have il2 := idx_length 1 (word 30 n) 0
      rw [hl30] at s2 il1 il2
      rw [hv30] at s1
      simp only [Int.pow_zero, Int.one_mul] at s1 s2
      have hr : ∀ c, ∀ x ∈ idx c (word 30 n) 0, 0 ≤ x ∧ x < 30 := fun c x hx => by
        obtain ⟨j, e1, _, h3, _⟩ := mem_idx _ _ _ _ hx
        omega
      refine law_l0 (idx (-1) (word 30 n) 0) il1 (hr _) n 0 1 (-1) true true true _ _ _ _ K 0 n (by rw [List.drop_zero]; omega) (by omega) (Nat.zero_le _) rfl (by omega) ?_
      intro k hk
      rw [List.drop_zero]
      obtain ⟨k, rfl⟩ : ∃ m, k = m + 1 := ⟨k - 1, by omega⟩
      rw [laws_FnWeighed.l0, if_neg (by omega)]
      refine law_l1 (idx 1 (word 30 n) 0) il2 (hr _) n 0 1 (-1) true true true _ _ _ _ k 0 _ (by rw [List.drop_zero]; omega) (by omega) (Nat.zero_le _) rfl (by omega) ?_
      intro k hk
      rw [List.drop_zero]
      obtain ⟨k, rfl⟩ : ∃ m, k = m + 1 := ⟨k - 1, by omega⟩
      rw [laws_FnWeighed.l1, if_neg (by omega), spec_LengthOf_tells n k (by omega)]
      simp only [Option.bind_some]
      obtain ⟨hlen1, hlen2, hlen3⟩ := len_spec (n := n) (by omega)
      rw [spec_WordOf_at hlen1 hlen2 k (by omega), if_pos hlen3]
      simp only [Option.bind_some, if_true]
      rw [if_pos (by omega), spec_WeightOf_tells _ (trits_word _ n hlen1 hlen2) k (by omega)]
      simp only [Option.bind_some]
      have hmore := word_more (len n) (30 - len n) n hlen3
      rw [show len n + (30 - len n) = 30 by omega] at hmore
      rw [hmore, weight_append, weight_zeros, ← hmore] at s5
      rw [wrapS (by omega) (by omega), s5, Int.add_zero, beq_self_eq_true]
end Go.Proofs.Ytgiehdhnhkmjfaa.Pure
-- Laid by xprint.py (wip/tools): printed contracts, and hand-written ones between them.
namespace Go.Proofs.Ytgiehdhnhkmjfaa.fnWeighed
open Go.ChangeShapes Go.WideShapes Go.ChangeAt Go.RowKit
open Go.ChangeMaps (open_string shut_string)
set_option linter.unusedVariables false
theorem own : ownKnob Try.prog.godebug = none := by kernel_rfl
theorem laidOut : laidOutB Try.prog = true := by kernel_rfl
def IsRow (k : IntKind) (w : World) (a : Option Addr) (len cap : Nat) (zs : List Int) : Prop :=
  (a = none ∧ len = 0 ∧ cap = 0 ∧ zs = []) ∨
  ∃ x, a = some x ∧ len ≤ cap ∧ cap ≤ maxLen ∧ zs.length = cap ∧ (∀ i, i < zs.length → w.cell? (x.add i) = some (.int k (zs.getD i 0))) ∧ ∀ n ∈ zs, (Lit.int k n).wf = true
set_option maxRecDepth 100000 in
theorem lifted (os : Os) (started : os.Started) (H : Type) (enc : TypeId × Value → H) :
    ReturnsInHanded {} Try.checked os 5 .any (Rows.fnWeighedSpec.pre6 enc Try.prog Try.f5 Rows.fnWeighedRow.domain false) (Rows.fnWeighedSpec.post enc Try.prog Try.f5 false true false false) := by
  refine returnsInHanded_of_change_sized (C := Try.checked) own started (by kernel_rfl) Try.func5
    (ChangeSpec.witness6 (enc := enc) (C := Try.checked) false ⟨#[], #[.slice none 0 0], []⟩ 8 (by kernel_rfl) (by kernel_rfl) (by kernel_rfl) (by kernel_rfl)) ?_
  intro W base args ds gs before hval0 hW hcnd hsz0 _
  have hsz : (DataW.weightsEach Try.prog (Try.f5.params.toList ++ Rows.fnWeighedSpec.plain.varTypes Try.prog) (ds ++ gs)).all (· ≤ reachBytes) = true := hsz0
  have hval : ∀ (j : Nat) t v, Try.f5.params[j]? = some t → args[j]? = some v → Value.okWide Try.prog W .any base t v := hval0
  have hW' := hW
  obtain ⟨p, q, hA0, hV, rfl, hfz, hnd⟩ := hW
  have hA : DataW.TrodAll enc Try.prog W 0 (fun _ => true) true Try.f5.params.toList args.toList ds p := hA0
  rw [Try.params5] at hA hval hsz
  obtain ⟨v0, vs0, d0, ds0, p0, q0, hargs, rfl, rfl, h0, r0⟩ := trodAll_cons hA
  obtain ⟨rfl, rfl, rfl⟩ := trodAll_nil r0
  obtain rfl : args = #[v0] := by cases args; simp_all
  obtain ⟨rfl, rfl⟩ := trodVars_none hV
  obtain ⟨a0, len0, cap0, rfl⟩ := okWide_slice Try.underlying45 (hval 0 45 v0 rfl rfl)
  have k0 := h0
  have lt0 : ∀ x ∈ p0, x.block < W.heap.size := by obtain ⟨m, hm⟩ := k0; exact DataW.trod_lt m _ _ _ hm
  obtain ⟨z0, w0⟩ : ∃ zs, IsRow .u8 W a0 len0 cap0 zs := by
    obtain ⟨fuel, hf⟩ := h0
    rcases open_ints Try.underlying45 Try.underlying5 (by kernel_rfl) hf with ⟨hcs, _⟩ | ⟨x, l, c, zs, hcs, _, hl, hm, hz, _, hcell, hwz⟩
    · simp [Value.cells] at hcs
      obtain ⟨rfl, rfl, rfl⟩ := hcs
      exact ⟨[], .inl ⟨rfl, rfl, rfl, rfl⟩⟩
    · simp [Value.cells] at hcs
      obtain ⟨rfl, rfl, rfl⟩ := hcs
      exact ⟨zs, .inr ⟨_, rfl, hl, hm, by simpa using hz, hcell, hwz⟩⟩
  have y0 : len0 * 1 ≤ 140737488351232 := Go.Proofs.YtgiehdhnhkmjfaaW.PrintWords.sized_ints hsz (j := 0) (t := 45) rfl rfl Try.underlying45 Try.underlying5 (by kernel_rfl) (by kernel_rfl) h0
  clear hA0 hval0 hsz0 hsz
  refine (X.laws_FnWeighed.walk Pure.FnWeighed a0 len0 cap0 z0 W w0 y0).mono fun e W' ⟨he, bel⟩ => ?_
  subst he
  exact ⟨_, rfl, _, _, _, [], _, [], hW', trodAll_mk1 (shut_bool Try.underlying4 _), (trodAll_cons_mk (Below.trod laidOut (by kernel_rfl) (of_decide_eq_true (by kernel_rfl)) k0 bel lt0) trodAll_mk0), rfl, bel.frame _, fun h => by cases h⟩
theorem over : Rows.fnWeighedRow.holds Try.pinned (OpenSpec.ofChange Rows.fnWeighedSpec) :=
  OpenClaim.holds_of_wide 5 Try.f5 rfl rfl rfl rfl rfl rfl rfl ⟨rfl, rfl, rfl, rfl, rfl⟩ rfl rfl rfl rfl rfl (by kernel_rfl) Try.func5 (by kernel_rfl)
    (of_decide_eq_true (by kernel_rfl)) (by unfold Func.isWrapper; first | (rw [if_pos (by decide +kernel)]; kernel_rfl) | (rw [if_neg (by decide +kernel)]; exact ⟨rfl, rfl⟩))
    (fun os started H enc _ => lifted os started H enc)
theorem proved : Rows.FnWeighedSaid := over
#print axioms proved
end Go.Proofs.Ytgiehdhnhkmjfaa.fnWeighed
namespace Go.Proofs.Ytgiehdhnhkmjfaa
/-- The row, under a short name, for the claim. -/
theorem fnWeighed_holds : Rows.FnWeighedSaid := fnWeighed.proved
end Go.Proofs.Ytgiehdhnhkmjfaa
