/- The reference's text of a status. -/
import Derived.Test.YtgldhpbbjngcaaaDoorS7
set_option linter.unusedVariables false
set_option linter.unusedSimpArgs false
namespace Go.Proofs.YtgldhpbbjngcaaaDoor
open Go.RowKit Go.Proofs.YtgldhpbbjngcaaaDoorW.PrintWords

theorem ref03_Digits (n : Int) (hn : Aside0 (-9223372036854775808 ≤ n ∧ n ≤ 9223372036854775807)) (w : World) : Calls Tryd.prog 17 #[.int .i64 n] w fun e w' => e = .returned (.string ⟨(Lib.itoa n).toArray⟩) ∧ ∃ m, w' = w.drewN m := by
  go_enter Tryd.func17, Tryd.ntmps17
  go_wp2_with fail
  refine (ref03_digits n.natAbs n rfl hn.out.1 hn.out.2 _).mono ?_
  rintro e w' ⟨rfl, m, rfl⟩
  go_wp2
  go_ret
  exact ⟨rfl, m, rfl⟩

theorem add_lists (x y : List UInt8) (hx : x.length ≤ 1000) (hy : y.length ≤ 1000) (W : World) : (Op.stringOp .add ⟨x.toArray⟩ ⟨y.toArray⟩).run Tryd.prog W = .ok (.string ⟨(x ++ y).toArray⟩) W := by
  have h := run_string_add_sum (P := Tryd.prog) W ⟨x.toArray⟩ ⟨y.toArray⟩ (by show x.toArray.size + y.toArray.size ≤ _; simp only [List.size_toArray]; omega)
  rw [h]
  congr 2
def sp1 : List UInt8 := [108, 97, 115, 116, 32]
def sp2 : List UInt8 := [32, 99, 117, 114, 114, 101, 110, 116, 32]
def sp3 : List UInt8 := [32, 110, 101, 120, 116, 32]
theorem sp_text (l : Nat) (c n : Int) : ((((sp1 ++ Lib.decDigits l) ++ sp2) ++ Lib.itoa c) ++ sp3) ++ Lib.itoa n = stText l c n := by
  simp [sp1, sp2, sp3, stText, sixWords, wLast, wCurrent, wNext]

set_option maxHeartbeats 2000000 in
set_option maxRecDepth 100000 in
theorem ref23_Text (l : Nat) (c n : Int) (hl : Aside0 (l < 18446744073709551616)) (hc : Aside0 (-9223372036854775808 ≤ c ∧ c ≤ 9223372036854775807)) (hn : Aside0 (-9223372036854775808 ≤ n ∧ n ≤ 9223372036854775807)) (w : World) :
    Calls Tryd.prog 7 #[.agg #[.int .u64 (l : Int), .int .i64 c, .int .i64 n]] w fun e w' => e = .returned (.string ⟨(stText l c n).toArray⟩) ∧ Below w.heap.size w w' := by
  have l1 := dec_len l hl.out
  have l2 := itoa_len c hc.out.1 hc.out.2
  have l3 := itoa_len n hn.out.1 hn.out.2
  have z1 : sp1.length = 5 := rfl
  have z2 : sp2.length = 9 := rfl
  have z3 : sp3.length = 6 := rfl
  have hT := Lib.hid (sp_text l c n)
  have a1 : ∀ W, (Op.stringOp .add ⟨#[108, 97, 115, 116, 32]⟩ ⟨(Lib.decDigits l).toArray⟩).run Tryd.prog W = .ok (.string ⟨(sp1 ++ Lib.decDigits l).toArray⟩) W := add_lists sp1 (Lib.decDigits l) (by omega) (by omega)
  obtain ⟨d1, hd1⟩ : ∃ d, sp1 ++ Lib.decDigits l = d := ⟨_, rfl⟩
  have k1 : d1.length ≤ 25 := by rw [← hd1, List.length_append]; omega
  rw [hd1] at a1 hT
  have a2 : ∀ W, (Op.stringOp .add ⟨d1.toArray⟩ ⟨#[32, 99, 117, 114, 114, 101, 110, 116, 32]⟩).run Tryd.prog W = .ok (.string ⟨(d1 ++ sp2).toArray⟩) W := add_lists d1 sp2 (by omega) (by omega)
  obtain ⟨d2, hd2⟩ : ∃ d, d1 ++ sp2 = d := ⟨_, rfl⟩
  have k2 : d2.length ≤ 34 := by rw [← hd2, List.length_append]; omega
  rw [hd2] at a2 hT
  have a3 : ∀ W, (Op.stringOp .add ⟨d2.toArray⟩ ⟨(Lib.itoa c).toArray⟩).run Tryd.prog W = .ok (.string ⟨(d2 ++ Lib.itoa c).toArray⟩) W := add_lists d2 (Lib.itoa c) (by omega) (by omega)
  obtain ⟨d3, hd3⟩ : ∃ d, d2 ++ Lib.itoa c = d := ⟨_, rfl⟩
  have k3 : d3.length ≤ 55 := by rw [← hd3, List.length_append]; omega
  rw [hd3] at a3 hT
  have a4 : ∀ W, (Op.stringOp .add ⟨d3.toArray⟩ ⟨#[32, 110, 101, 120, 116, 32]⟩).run Tryd.prog W = .ok (.string ⟨(d3 ++ sp3).toArray⟩) W := add_lists d3 sp3 (by omega) (by omega)
  obtain ⟨d4, hd4⟩ : ∃ d, d3 ++ sp3 = d := ⟨_, rfl⟩
  have k4 : d4.length ≤ 61 := by rw [← hd4, List.length_append]; omega
  rw [hd4] at a4 hT
  have a5 : ∀ W, (Op.stringOp .add ⟨d4.toArray⟩ ⟨(Lib.itoa n).toArray⟩).run Tryd.prog W = .ok (.string ⟨(d4 ++ Lib.itoa n).toArray⟩) W := add_lists d4 (Lib.itoa n) (by omega) (by omega)
  have hT2 := hT.out
  have hT3 := Lib.hid hT2
  rw [hT2] at a5
  clear hT hT2 hd1 hd2 hd3 hd4 k1 k2 k3 k4 z1 z2 z3 l1 l2 l3
  go_enter Tryd.func7, Tryd.ntmps7
  go_wp2
  go_quiet ((first | (go_at_call 16; exact Calls.quiet_of (ref23_big l (by have := hl.out; unfold U64; omega) _)) | (go_at_call 17; exact Calls.quiet_of (ref03_Digits _ (by assumption) _))))
  go_wp2
  go_ret
  exact ⟨rfl, by repeat (first | exact Below.refl _ _ | apply below_alloc | apply below_drew | apply pw_below_drewN)⟩
end Go.Proofs.YtgldhpbbjngcaaaDoor
