/- The reference's digits and text. -/
import Derived.Test.YtgldhpbbjngcaaaDoorS5
import Derived.Test.YtgldhpbbjngcaaaDoorS1
import Derived.Deep.QuietTactic
import Derived.BigQuiet
import Derived.IntWalk
set_option linter.unusedVariables false
namespace Go.Proofs.YtgldhpbbjngcaaaDoor
open Go.RowKit Go.Proofs.YtgldhpbbjngcaaaDoorW.PrintWords

def tenD : ByteArray := ⟨#[48, 49, 50, 51, 52, 53, 54, 55, 56, 57]⟩
theorem digit_cut (k : Nat) (h : k < 10) : tenD.extract k (k + 1) = ⟨#[UInt8.ofNat (48 + k)]⟩ := by
  rcases (show k = 0 ∨ k = 1 ∨ k = 2 ∨ k = 3 ∨ k = 4 ∨ k = 5 ∨ k = 6 ∨ k = 7 ∨ k = 8 ∨ k = 9 by omega) with rfl | rfl | rfl | rfl | rfl | rfl | rfl | rfl | rfl | rfl <;> rfl
theorem one_str (k : Nat) (h : k < 10) : Ending.returned (Value.string (tenD.extract k (k + 1))) = .returned (.string ⟨(Lib.decDigits k).toArray⟩) := by
  rw [digit_cut k h, Lib.decDigits_one h]
theorem add_str (k : Nat) (h : ¬ k < 10) : Ending.returned (Value.string ((⟨(Lib.decDigits (k / 10)).toArray⟩ : ByteArray) ++ tenD.extract (k % 10) (k % 10 + 1))) = .returned (.string ⟨(Lib.decDigits k).toArray⟩) := by
  rw [digit_cut (k % 10) (by omega)]
  conv => rhs; rw [Lib.decDigits, dif_neg h]
  congr 2
def U64 : Nat := 18446744073709551616


theorem slice_dig (k : IntKind) (hk : k = .u64 ∨ k = .i64) (r : Nat) (hr : r < 10) (W : World) : (Instr.sliceAt 9 (.string ⟨#[48, 49, 50, 51, 52, 53, 54, 55, 56, 57]⟩) (some (.int k (r : Int))) (some (.int k ((r : Int) + 1))) none).run Tryd.prog W = .ok (.string (tenD.extract r (r + 1))) W := by
  have hw4 : (0 : Int) ≤ (r : Int) + 1 := by omega
  have hw5 : ((r : Int) + 1).toNat = r + 1 := by omega
  have hw6 : (r : Int) + 1 ≤ 10 := by omega
  rcases hk with rfl | rfl
  · go_simp
    rw [if_pos (by omega)]
    rfl
  · go_simp
    rw [if_pos (by omega)]
    rfl
theorem add_dig (l : List UInt8) (hl : l.length ≤ 1000) (r : Nat) (W : World) : (Op.stringOp .add ⟨l.toArray⟩ (tenD.extract r (r + 1))).run Tryd.prog W = .ok (.string ((⟨l.toArray⟩ : ByteArray) ++ tenD.extract r (r + 1))) W := by
  have hz : tenD.size = 10 := rfl
  refine run_string_add_sum W _ _ ?_
  rw [ByteArray.size_extract, hz]
  show l.toArray.size + _ ≤ _
  simp only [List.size_toArray]
  omega

set_option maxHeartbeats 1000000 in
theorem ref23_big (v : Nat) : ∀ (hv : v < U64) (w : World), Calls Tryd.prog 16 #[.int .u64 v] w fun e w' => e = .returned (.string ⟨(Lib.decDigits v).toArray⟩) ∧ ∃ n, w' = w.drewN n := by
  induction v using Nat.strongRecOn with
  | _ v ih =>
    intro hv w
    have IH := Lib.hid ih
    clear ih
    by_cases h : v < 10
    · go_enter Tryd.func16, Tryd.ntmps16
      go_wp2
      go_ret
      exact ⟨one_str v h, 0, (World.drewN_zero _).symm⟩
    · have hq : ¬ v < 10 := h
      have HFIN := Lib.hid (add_str v h)
      obtain ⟨q, hqe⟩ : ∃ q, v / 10 = q := ⟨_, rfl⟩
      obtain ⟨r, hre⟩ : ∃ r, v % 10 = r := ⟨_, rfl⟩
      rw [hqe, hre] at HFIN
      have hw1 : IntKind.u64.wrap ((v : Int) / 10) = (q : Int) := by rw [IntKind.wrap_u64]; unfold U64 at hv; omega
      have hw2 : ((v : Int)).tmod 10 = (r : Int) := by rw [Int.tmod_eq_emod_of_nonneg (by omega)]; omega
      have hr : r < 10 := by omega
      have hw3 : IntKind.u64.wrap ((r : Int) + 1) = (r : Int) + 1 := by rw [IntKind.wrap_u64]; omega
      have hsl := slice_dig .u64 (Or.inl rfl) r hr
      have hadd := add_dig (Lib.decDigits q) (by have := dec_len q (by unfold U64 at hv; omega); omega) r
      have HQ := Lib.hid hqe
      have HV := Lib.hid hv
      clear hv hqe hre
      go_enter Tryd.func16, Tryd.ntmps16
      go_wp2
      go_quiet ((go_at_call 16; exact Calls.quiet_of (IH.out q (by have := HQ.out; omega) (by have := HV.out; have := HQ.out; omega) _)))
      go_wp2
      go_ret
      exact ⟨HFIN.out, nq, rfl⟩

/-! ### r03.Digits -/
theorem neg_one (k : Nat) (h : 1 ≤ k) (h1 : k < 10) : Ending.returned (Value.string ((⟨#[45]⟩ : ByteArray) ++ tenD.extract k (k + 1))) = .returned (.string ⟨(Lib.itoa (-(k : Int))).toArray⟩) := by
  rw [digit_cut k h1, Lib.itoa, if_pos (by omega), show (-(k : Int)).natAbs = k by omega, Lib.decDigits_one h1]
  rfl
theorem neg_more (k : Nat) (h : ¬ k < 10) : Ending.returned (Value.string ((⟨(Lib.itoa (-((k / 10 : Nat) : Int))).toArray⟩ : ByteArray) ++ tenD.extract (k % 10) (k % 10 + 1))) = .returned (.string ⟨(Lib.itoa (-(k : Int))).toArray⟩) := by
  rw [digit_cut (k % 10) (by omega), Lib.itoa, if_pos (by omega), Lib.itoa, if_pos (by omega), show (-(k : Int)).natAbs = k by omega, show (-((k / 10 : Nat) : Int)).natAbs = k / 10 by omega]
  conv => rhs; rw [Lib.decDigits, dif_neg h]
  congr 2
theorem pos_one (k : Nat) (h1 : k < 10) : Ending.returned (Value.string (tenD.extract k (k + 1))) = .returned (.string ⟨(Lib.itoa (k : Int)).toArray⟩) := by
  rw [one_str k h1, Lib.itoa, if_neg (by omega)]; rfl
theorem pos_more (k : Nat) (h : ¬ k < 10) : Ending.returned (Value.string ((⟨(Lib.itoa ((k / 10 : Nat) : Int)).toArray⟩ : ByteArray) ++ tenD.extract (k % 10) (k % 10 + 1))) = .returned (.string ⟨(Lib.itoa (k : Int)).toArray⟩) := by
  have := add_str k h
  rw [Lib.itoa, if_neg (by omega), Lib.itoa, if_neg (by omega)]
  exact this
def I64m : Int := -9223372036854775808
def I64M : Int := 9223372036854775807

set_option maxHeartbeats 2000000 in
theorem ref03_digits (m : Nat) : ∀ (n : Int) (hm : n.natAbs = m) (h0 : I64m ≤ n) (h1 : n ≤ I64M) (w : World), Calls Tryd.prog 29 #[.int .i64 n] w fun e w' => e = .returned (.string ⟨(Lib.itoa n).toArray⟩) ∧ ∃ n, w' = w.drewN n := by
  induction m using Nat.strongRecOn with
  | _ m ih =>
    intro n hm h0 h1 w
    have IH := Lib.hid ih
    clear ih
    by_cases hn : n < 0
    · obtain ⟨k, rfl⟩ : ∃ k : Nat, n = -(k : Int) := ⟨n.natAbs, by omega⟩
      by_cases h : k < 10
      · have hg : (-10 : Int) < -(k : Int) := by omega
        have HFIN := Lib.hid (neg_one k (by omega) h)
        have hw : IntKind.i64.wrap ((k : Int)) = (k : Int) := IntWalk.i64_in _ (by omega)
        have hw3 : IntKind.i64.wrap ((k : Int) + 1) = (k : Int) + 1 := IntWalk.i64_in _ (by omega)
        have hsl := slice_dig .i64 (Or.inr rfl) k h
        have HM := Lib.hid hm
        have H0 := Lib.hid h0
        clear hm h0 h1
        go_enter Tryd.func29, Tryd.ntmps29
        go_wp2
        go_ret
        exact ⟨HFIN.out, 0, (World.drewN_zero _).symm⟩
      · have hg : ¬ (-10 : Int) < -(k : Int) := by omega
        have HFIN := Lib.hid (neg_more k h)
        obtain ⟨q, hqe⟩ : ∃ q, k / 10 = q := ⟨_, rfl⟩
        obtain ⟨r, hre⟩ : ∃ r, k % 10 = r := ⟨_, rfl⟩
        rw [hqe, hre] at HFIN
        have hr : r < 10 := by omega
        have hd : (-(k : Int)).tdiv 10 = -(q : Int) := by rw [Int.neg_tdiv, Int.tdiv_eq_ediv_of_nonneg (by omega)]; omega
        have hd2 : IntKind.i64.wrap (-(q : Int)) = -(q : Int) := IntWalk.i64_in _ (by unfold I64m at h0; omega)
        have hw2 : (-(k : Int)).tmod 10 = -(r : Int) := by rw [Int.neg_tmod, Int.tmod_eq_emod_of_nonneg (by omega)]; omega
        have hw : IntKind.i64.wrap ((r : Int)) = (r : Int) := IntWalk.i64_in _ (by omega)
        have hw3 : IntKind.i64.wrap ((r : Int) + 1) = (r : Int) + 1 := IntWalk.i64_in _ (by omega)
        have hsl := slice_dig .i64 (Or.inr rfl) r hr
        have hadd := add_dig (Lib.itoa (-(q : Int))) (by have := itoa_len (-(q : Int)) (by unfold I64m at h0; omega) (by omega); omega) r
        have HQ := Lib.hid hqe
        have HM := Lib.hid hm
        have H0 := Lib.hid h0
        clear hm h0 h1 hqe hre
        go_enter Tryd.func29, Tryd.ntmps29
        go_wp2
        go_quiet ((go_at_call 29; go_loud (exact Calls.quiet_of (IH.out q (by have := HQ.out; have := HM.out; omega) (-(q : Int)) (by omega) (by have := H0.out; have := HQ.out; unfold I64m at *; omega) (by unfold I64M; omega) _))))
        go_wp2
        go_ret
        exact ⟨HFIN.out, nq, rfl⟩
    · obtain ⟨k, rfl⟩ : ∃ k : Nat, n = (k : Int) := ⟨n.natAbs, by omega⟩
      by_cases h : k < 10
      · have HFIN := Lib.hid (pos_one k h)
        have hsl := slice_dig .i64 (Or.inr rfl) k h
        clear hm h0 h1
        go_enter Tryd.func29, Tryd.ntmps29
        go_wp2
        go_ret
        exact ⟨HFIN.out, 0, (World.drewN_zero _).symm⟩
      · have HFIN := Lib.hid (pos_more k h)
        obtain ⟨q, hqe⟩ : ∃ q, k / 10 = q := ⟨_, rfl⟩
        obtain ⟨r, hre⟩ : ∃ r, k % 10 = r := ⟨_, rfl⟩
        rw [hqe, hre] at HFIN
        have hr : r < 10 := by omega
        have hd : (k : Int).tdiv 10 = (q : Int) := by rw [Int.tdiv_eq_ediv_of_nonneg (by omega)]; omega
        have hd1 : (k : Int) / 10 = (q : Int) := by omega
        have hd2 : IntKind.i64.wrap (q : Int) = (q : Int) := IntWalk.i64_in _ (by unfold I64M at h1; omega)
        have hw2 : (k : Int).tmod 10 = (r : Int) := by rw [Int.tmod_eq_emod_of_nonneg (by omega)]; omega
        have hw3 : IntKind.i64.wrap ((r : Int) + 1) = (r : Int) + 1 := IntWalk.i64_in _ (by omega)
        have hsl := slice_dig .i64 (Or.inr rfl) r hr
        have hadd := add_dig (Lib.itoa (q : Int)) (by have := itoa_len (q : Int) (by omega) (by unfold I64M at h1; omega); omega) r
        have HQ := Lib.hid hqe
        have HM := Lib.hid hm
        have H1 := Lib.hid h1
        clear hm h0 h1 hqe hre
        go_enter Tryd.func29, Tryd.ntmps29
        go_wp2
        go_quiet ((go_at_call 29; go_loud (exact Calls.quiet_of (IH.out q (by have := HQ.out; have := HM.out; omega) (q : Int) (by omega) (by unfold I64m; omega) (by have := H1.out; have := HQ.out; unfold I64M at *; omega) _))))
        go_wp2
        go_ret
        exact ⟨HFIN.out, nq, rfl⟩
end Go.Proofs.YtgldhpbbjngcaaaDoor
