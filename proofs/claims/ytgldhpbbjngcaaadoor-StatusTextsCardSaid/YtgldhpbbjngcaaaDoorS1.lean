/- A status's text: plain Lean: what is parsed of it. -/
import Derived.Lib.Split
import Derived.Lib.ParseIntB
import Derived.Lib.ItoaNum
import Derived.Lib.AtoiAll
import Derived.Lib.Join
namespace Go.Proofs.YtgldhpbbjngcaaaDoor
open Go

/-! ### Words between blanks -/
theorem index_word : ∀ (w r : List UInt8), 32 ∉ w → Lib.index (w ++ 32 :: r) [32] = w.length
  | [], r, _ => by simp [Lib.index]
  | a :: w, r, h => by
    have ha : a ≠ 32 := fun e => h (by simp [e])
    have hw : 32 ∉ w := fun e => h (by simp [e])
    have ih := index_word w r hw
    have hp : ([32] : List UInt8).isPrefixOf (a :: (w ++ 32 :: r)) = false := by
      simp [List.isPrefixOf]; exact fun e => ha e.symm
    rw [List.cons_append, Lib.index, hp, ih]
    simp
theorem index_none : ∀ (w : List UInt8), 32 ∉ w → Lib.index w [32] = -1
  | [], _ => by simp [Lib.index]
  | a :: w, h => by
    have ha : a ≠ 32 := fun e => h (by simp [e])
    have hw : 32 ∉ w := fun e => h (by simp [e])
    have hp : ([32] : List UInt8).isPrefixOf (a :: w) = false := by
      simp [List.isPrefixOf]; exact fun e => ha e.symm
    rw [Lib.index, hp, index_none w hw]
    rfl
theorem splitK_word (k : Nat) (w r : List UInt8) (h : 32 ∉ w) : Lib.splitK [32] 0 (k + 1) (w ++ 32 :: r) = w :: Lib.splitK [32] 0 k r := by
  have hi := index_word w r h
  rw [Lib.splitK, hi]
  have hn : ¬ (((w.length : Int) == -1) = true) := by simp
  rw [if_neg hn]
  simp
theorem splitK_last (k : Nat) (w : List UInt8) (h : 32 ∉ w) : Lib.splitK [32] 0 k w = [w] := by
  cases k with
  | zero => rfl
  | succ k => rw [Lib.splitK, index_none w h]; rfl

theorem countFrom_word (w r : List UInt8) (h : 32 ∉ w) (n : Nat) : Lib.countFrom [32] (n + 1) (w ++ 32 :: r) = 1 + Lib.countFrom [32] n r := by
  rw [Lib.countFrom, index_word w r h]
  have hn : ¬ (((w.length : Int) == -1) = true) := by simp
  rw [if_neg hn]
  simp
theorem countFrom_none (w : List UInt8) (h : 32 ∉ w) (n : Nat) : Lib.countFrom [32] n w = 0 := by
  cases n with
  | zero => rfl
  | succ n => rw [Lib.countFrom, index_none w h]; rfl

/-- The text: six words. -/
def sixWords (a b c d e f : List UInt8) : List UInt8 := a ++ 32 :: (b ++ 32 :: (c ++ 32 :: (d ++ 32 :: (e ++ 32 :: f))))
theorem six_count {a b c d e f : List UInt8} (ha : 32 ∉ a) (hb : 32 ∉ b) (hc : 32 ∉ c) (hd : 32 ∉ d) (he : 32 ∉ e) (hf : 32 ∉ f) : Lib.count (sixWords a b c d e f) [32] = 5 := by
  unfold Lib.count
  obtain ⟨k, hk⟩ : ∃ k, (sixWords a b c d e f).length + 1 = k + 1 + 1 + 1 + 1 + 1 := ⟨(sixWords a b c d e f).length - 4, by unfold sixWords; simp; omega⟩
  rw [hk]
  unfold sixWords
  rw [countFrom_word _ _ ha, countFrom_word _ _ hb, countFrom_word _ _ hc, countFrom_word _ _ hd, countFrom_word _ _ he, countFrom_none _ hf]
theorem six_split {a b c d e f : List UInt8} (ha : 32 ∉ a) (hb : 32 ∉ b) (hc : 32 ∉ c) (hd : 32 ∉ d) (he : 32 ∉ e) (hf : 32 ∉ f) : Lib.splitK [32] 0 5 (sixWords a b c d e f) = [a, b, c, d, e, f] := by
  unfold sixWords
  rw [splitK_word _ _ _ ha, splitK_word _ _ _ hb, splitK_word _ _ _ hc, splitK_word _ _ _ hd, splitK_word _ _ _ he, splitK_last _ _ hf]
theorem six_join (a b c d e f : List UInt8) : Lib.join [a, b, c, d, e, f] [32] = sixWords a b c d e f := by
  simp [Lib.join, sixWords, List.intercalate, List.intersperse]

/-! ### Digits -/
theorem dig_nat {k : Nat} (h : k < 10) : (UInt8.ofNat (48 + k)).toNat = 48 + k := by
  rw [UInt8.toNat_ofNat']; omega
theorem decDigits_bytes (u : Nat) : ∀ x ∈ Lib.decDigits u, 48 ≤ x.toNat ∧ x.toNat ≤ 57 := by
  induction u using Nat.strongRecOn with
  | _ u ih =>
    rw [Lib.decDigits]
    intro x hx
    split at hx
    · simp only [List.mem_singleton] at hx
      subst hx
      rw [dig_nat (by omega)]; omega
    · rw [List.mem_append, List.mem_singleton] at hx
      rcases hx with hx | rfl
      · exact ih (u / 10) (by omega) x hx
      · rw [dig_nat (by omega)]; omega
theorem decDigits_ne (u : Nat) : Lib.decDigits u ≠ [] := by
  rw [Lib.decDigits]; split <;> simp
theorem no_blank_dec (u : Nat) : 32 ∉ Lib.decDigits u := fun h => by
  have := decDigits_bytes u 32 h
  revert this; decide
theorem no_blank_itoa (n : Int) : 32 ∉ Lib.itoa n := by
  unfold Lib.itoa
  split
  · intro h
    rcases List.mem_cons.1 h with h | h
    · revert h; decide
    · exact no_blank_dec _ h
  · exact no_blank_dec _
theorem parseM_snoc (M : Nat) (c : UInt8) : ∀ (l : List UInt8) (acc a : Nat), Lib.parseUintM M acc l = .ok a → Lib.parseUintM M acc (l ++ [c]) = Lib.parseUintM M a [c]
  | [], acc, a, h => by
    simp only [Lib.parseUintM] at h
    injection h with h
    subst h; rfl
  | x :: l, acc, a, h => by
    rw [List.cons_append]
    simp only [Lib.parseUintM] at h ⊢
    split at h <;> rename_i h1
    · rw [if_pos h1]
      split at h
      · cases h
      · rename_i h2
        rw [if_neg h2]
        split at h
        · cases h
        · rename_i h3
          rw [if_neg h3]
          exact parseM_snoc M c l _ a h
    · cases h
theorem parse10_snoc (c : UInt8) : ∀ (l : List UInt8) (acc a : Nat), Lib.parseUint10 acc l = .ok a → Lib.parseUint10 acc (l ++ [c]) = Lib.parseUint10 a [c]
  | [], acc, a, h => by
    simp only [Lib.parseUint10] at h
    injection h with h
    subst h; rfl
  | x :: l, acc, a, h => by
    rw [List.cons_append]
    simp only [Lib.parseUint10] at h ⊢
    split at h <;> rename_i h1
    · rw [if_pos h1]
      split at h
      · cases h
      · rename_i h2
        rw [if_neg h2]
        split at h
        · cases h
        · rename_i h3
          rw [if_neg h3]
          exact parse10_snoc c l _ a h
    · cases h
theorem parseM_dec (u : Nat) (M : Nat) (hu : u ≤ M) (hM : M < 18446744073709551616) : Lib.parseUintM M 0 (Lib.decDigits u) = .ok u := by
  induction u using Nat.strongRecOn with
  | _ u ih =>
    rw [Lib.decDigits]
    by_cases h : u < 10
    · rw [dif_pos h]
      have hd := dig_nat h
      simp only [Lib.parseUintM]
      rw [hd, if_pos (by omega), if_neg (by omega), if_neg (by omega)]
      congr 1; omega
    · rw [dif_neg h, parseM_snoc M _ _ _ _ (ih (u / 10) (by omega) (by omega))]
      have hd := dig_nat (show u % 10 < 10 by omega)
      simp only [Lib.parseUintM]
      rw [hd, if_pos (by omega), if_neg (by omega), if_neg (by omega)]
      congr 1; omega
theorem parse10_dec (u : Nat) (hM : u < 18446744073709551616) : Lib.parseUint10 0 (Lib.decDigits u) = .ok u := by
  induction u using Nat.strongRecOn with
  | _ u ih =>
    rw [Lib.decDigits]
    by_cases h : u < 10
    · rw [dif_pos h]
      have hd := dig_nat h
      simp only [Lib.parseUint10]
      rw [hd, if_pos (by omega), if_neg (by omega), if_neg (by omega)]
      congr 1; omega
    · rw [dif_neg h, parse10_snoc _ _ _ _ (ih (u / 10) (by omega) (by omega))]
      have hd := dig_nat (show u % 10 < 10 by omega)
      simp only [Lib.parseUint10]
      rw [hd, if_pos (by omega), if_neg (by omega), if_neg (by omega)]
      congr 1; omega
theorem parseB_dec (u : Nat) (hu : u < 18446744073709551616) : Lib.parseUintB 64 (Lib.decDigits u) = .ok u := by
  unfold Lib.parseUintB
  rw [if_neg (decDigits_ne u)]
  exact parseM_dec u _ (by omega) (by omega)
theorem parseMag_dec (u : Nat) (hu : u < 18446744073709551616) : Lib.parseMag (Lib.decDigits u) = .ok u := by
  unfold Lib.parseMag
  rw [if_neg (decDigits_ne u)]
  exact parse10_dec u hu
theorem atoi_dec (u : Nat) (hu : u < 9223372036854775808) : Lib.atoiAll (Lib.decDigits u) = .ok (u : Int) := by
  cases hd : Lib.decDigits u with
  | nil => exact absurd hd (decDigits_ne u)
  | cons c r =>
    have hc := decDigits_bytes u c (by rw [hd]; simp)
    have hp := parseMag_dec u (by omega)
    rw [hd] at hp
    simp only [Lib.atoiAll]
    rw [if_neg (by omega), hp]
    simp only
    rw [if_neg (by omega), if_neg (by omega), if_neg (by omega)]
theorem atoi_itoa (n : Int) (h0 : -9223372036854775808 ≤ n) (h1 : n ≤ 9223372036854775807) : Lib.atoiAll (Lib.itoa n) = .ok n := by
  unfold Lib.itoa
  by_cases hn : n < 0
  · rw [if_pos hn]
    simp only [Lib.atoiAll]
    have h45 : (45 : UInt8).toNat = 45 := rfl
    rw [h45, if_pos (Or.inr rfl), parseMag_dec _ (by omega)]
    simp only
    rw [if_neg (by simp), if_neg (by omega), if_pos trivial]
    congr 1; omega
  · rw [if_neg hn, atoi_dec _ (by omega)]
    congr 1; omega

/-! ### A status's text -/
def wLast : List UInt8 := [108, 97, 115, 116]
def wCurrent : List UInt8 := [99, 117, 114, 114, 101, 110, 116]
def wNext : List UInt8 := [110, 101, 120, 116]
def stText (l : Nat) (c n : Int) : List UInt8 := sixWords wLast (Lib.decDigits l) wCurrent (Lib.itoa c) wNext (Lib.itoa n)
theorem stText_count (l : Nat) (c n : Int) : Lib.count (stText l c n) [32] = 5 :=
  six_count (by decide) (no_blank_dec _) (by decide) (no_blank_itoa _) (by decide) (no_blank_itoa _)
theorem stText_split (l : Nat) (c n : Int) : Lib.splitK [32] 0 5 (stText l c n) = [wLast, Lib.decDigits l, wCurrent, Lib.itoa c, wNext, Lib.itoa n] :=
  six_split (by decide) (no_blank_dec _) (by decide) (no_blank_itoa _) (by decide) (no_blank_itoa _)
theorem nDigits_le (u k : Nat) (h : u < 10 ^ k) (hk : 1 ≤ k) : Lib.nDigits u ≤ k := by
  induction k generalizing u with
  | zero => omega
  | succ k ih =>
    rw [Lib.nDigits]
    split
    · omega
    · rename_i hu
      by_cases hk0 : k = 0
      · subst hk0; simp at h; omega
      · have := ih (u / 10) (by rw [Nat.pow_succ] at h; omega) (by omega)
        omega
theorem dec_len (u : Nat) (h : u < 18446744073709551616) : (Lib.decDigits u).length ≤ 20 := by
  rw [Lib.decDigits_length]
  exact nDigits_le u 20 (by omega) (by omega)
theorem itoa_len (n : Int) (h0 : -9223372036854775808 ≤ n) (h1 : n ≤ 9223372036854775807) : (Lib.itoa n).length ≤ 21 := by
  unfold Lib.itoa
  split
  · have := dec_len n.natAbs (by omega); simp; omega
  · have := dec_len n.toNat (by omega); omega
theorem stText_len (l : Nat) (c n : Int) (hl : l < 18446744073709551616) (hc0 : -9223372036854775808 ≤ c) (hc1 : c ≤ 9223372036854775807) (hn0 : -9223372036854775808 ≤ n) (hn1 : n ≤ 9223372036854775807) : (stText l c n).length ≤ 200 := by
  have h1 := dec_len l hl
  have h2 := itoa_len c hc0 hc1
  have h3 := itoa_len n hn0 hn1
  unfold stText sixWords wLast wCurrent wNext
  simp
  omega
end Go.Proofs.YtgldhpbbjngcaaaDoor
