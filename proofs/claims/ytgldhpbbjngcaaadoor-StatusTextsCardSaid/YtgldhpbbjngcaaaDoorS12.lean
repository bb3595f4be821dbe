/- StatusTexts, walked. -/
import Derived.Test.YtgldhpbbjngcaaaDoorS11
set_option linter.unusedVariables false
set_option linter.unusedSimpArgs false
namespace Go.Proofs.YtgldhpbbjngcaaaDoor
open Go.RowKit Go.Proofs.YtgldhpbbjngcaaaDoorW.PrintWords

set_option maxHeartbeats 8000000 in
set_option maxRecDepth 100000 in
theorem law_walk (l : Nat) (c n : Int) (t : ByteArray) (BL : Aside0 (l < 18446744073709551616)) (BC : Aside0 (-9223372036854775808 ≤ c ∧ c ≤ 9223372036854775807)) (BN : Aside0 (-9223372036854775808 ≤ n ∧ n ≤ 9223372036854775807)) (ht : t.size ≤ 9223372036854775807) (w : World) (HE : Aside0 (Env w)) :
    Calls Tryd.prog 3 #[.agg #[.int .u64 (l : Int), .int .i64 c, .int .i64 n], .string t] w fun e w' => e = .returned (.bool true) ∧ Below w.heap.size w w' := by
  have BX := Aside0.mk (blk_new w (.cells #[.int .u64 (l : Int), .int .i64 c, .int .i64 n] 24))
  have HB := Aside0.mk (below_alloc (Below.refl _ w) (.cells #[.int .u64 (l : Int), .int .i64 c, .int .i64 n] 24))
  have HE1 := Aside0.mk (HE.out.below HB.out)
  by_cases hlen : 200 < t.size
  · go_enter Tryd.func3, Tryd.ntmps3
    go_wp2_with (go_at_call 4; refine (awake_true _ HE1).mono ?_; rintro e w2 ⟨rfl, hb2⟩; refine Hid.out ?_)
    have HB2 := Aside0.mk (below_step HB.out hb2)
    clear hb2
    refine Lib.hid ?_
    go_wp2
    go_ret
    exact ⟨rfl, HB2.out⟩
  · have h200 : t.size ≤ 200 := by omega
    have HT := Aside0.mk h200
    have HTL := Aside0.mk (show (tB l c n).size ≤ 200 from stText_len l c n BL.out BC.out.1 BC.out.2 BN.out.1 BN.out.2)
    have HPT := Lib.hid (parseSt_text l c n BL.out BC.out BN.out)
    clear h200
    go_enter Tryd.func3, Tryd.ntmps3
    go_wp2_with (go_at_call 5; refine (status_Text l c n BL BC BN _ HE1).mono ?_; rintro e w2 ⟨rfl, hb2⟩; refine Hid.out ?_)
    have BX2 := Aside0.mk (blk_below BX.out hb2)
    have HB2 := Aside0.mk (below_step HB.out hb2)
    have HE2 := Aside0.mk (HE.out.below HB2.out)
    clear hb2
    have hfold : (⟨(stText l c n).toArray⟩ : ByteArray) = tB l c n := rfl
    rw [hfold]
    clear hfold
    refine Lib.hid ?_
    go_wp2_with (go_at_call 6; refine (status_Parse (tB l c n) HTL.out _ HE2).mono ?_; rw [HPT.out]; rintro e w3 ⟨rfl, hb3⟩; refine Hid.out ?_)
    have BX3 := Aside0.mk (blk_below BX2.out hb3)
    have HB3 := Aside0.mk (below_step HB2.out hb3)
    have HE3 := Aside0.mk (HE.out.below HB3.out)
    clear hb3
    simp only [ansOf]
    have BX4 := Aside0.mk (blk_below BX3.out (below_alloc (Below.refl _ _) (.cells #[.int .u64 (l : Int), .int .i64 c, .int .i64 n] 24)))
    have BY4 := Aside0.mk (blk_new w3 (.cells #[.int .u64 (l : Int), .int .i64 c, .int .i64 n] 24))
    have HB4 := Aside0.mk (below_alloc HB3.out (.cells #[.int .u64 (l : Int), .int .i64 c, .int .i64 n] 24))
    have x0 := (blk_cell BX3.out 0).trans rfl
    have x1 := (blk_cell BX3.out 1).trans rfl
    have x2 := (blk_cell BX3.out 2).trans rfl
    have hlt := blk_lt BX3.out
    refine Lib.hid ?_
    go_wp2_with (go_at_call 7; refine (ref23_Text l c n BL BC BN _).mono ?_; rintro e w5 ⟨rfl, hb5⟩; refine Hid.out ?_)
    have BX5 := Aside0.mk (blk_below BX4.out hb5)
    have BY5 := Aside0.mk (blk_below BY4.out hb5)
    have HB5 := Aside0.mk (below_step HB4.out hb5)
    have HE5 := Aside0.mk (HE.out.below HB5.out)
    clear hb5 x0 x1 x2
    have x0 := (blk_cell BX5.out 0).trans rfl
    have x1 := (blk_cell BX5.out 1).trans rfl
    have x2 := (blk_cell BX5.out 2).trans rfl
    have y0 := (blk_cell BY5.out 0).trans rfl
    have y1 := (blk_cell BY5.out 1).trans rfl
    have y2 := (blk_cell BY5.out 2).trans rfl
    have hfold : (⟨(stText l c n).toArray⟩ : ByteArray) = tB l c n := rfl
    rw [hfold]
    clear hfold
    refine Lib.hid ?_
    cases hp : parseSt t with
    | none =>
      have HP := Lib.hid hp
      clear hp
      go_wp2_with (go_at_call 6; refine (status_Parse t HT.out _ HE5).mono ?_; rw [HP.out]; rintro e w6 ⟨rfl, hb6⟩; refine Hid.out ?_)
      have HB6 := Aside0.mk (below_step HB5.out hb6)
      have HB7 := Aside0.mk (below_alloc HB6.out (.cells #[.int .u64 0, .int .i64 0, .int .i64 0] 24))
      have HE7 := Aside0.mk (HE.out.below HB7.out)
      clear hb6
      simp only [ansOf]
      refine Lib.hid ?_
      go_wp2_with (go_at_call 8; refine (fault_Of_class 6 _ HE7.out.ety).mono ?_; rintro e w8 ⟨rfl, hb8⟩; refine Hid.out ?_)
      have HB8 := Aside0.mk (below_step HB7.out hb8)
      have HE8 := Aside0.mk (HE.out.below HB8.out)
      clear hb8
      refine Lib.hid ?_
      go_wp2_with (go_at_call 4; refine (awake_true _ HE8).mono ?_; rintro e w9 ⟨rfl, hb9⟩; refine Hid.out ?_)
      have HB9 := Aside0.mk (below_step HB8.out hb9)
      clear hb9
      refine Lib.hid ?_
      go_wp2
      go_ret
      exact ⟨rfl, HB9.out⟩
    | some x =>
      obtain ⟨l2, c2, n2⟩ := x
      obtain ⟨q1, q2, q3, q4⟩ := parseSt_some hp
      have HP := Lib.hid hp
      have QL := Aside0.mk q2
      have QC := Aside0.mk q3
      have QN := Aside0.mk q4
      have hstr : (stText l2 c2 n2 == t.toList) = true := by rw [beq_iff_eq, ByteArray.toList_eq]; exact q1
      clear hp q1 q2 q3 q4
      go_wp2_with (go_at_call 6; refine (status_Parse t HT.out _ HE5).mono ?_; rw [HP.out]; rintro e w6 ⟨rfl, hb6⟩; refine Hid.out ?_)
      have HB6 := Aside0.mk (below_step HB5.out hb6)
      have HB7 := Aside0.mk (below_alloc HB6.out (.cells #[.int .u64 (l2 : Int), .int .i64 c2, .int .i64 n2] 24))
      clear hb6
      simp only [ansOf]
      refine Lib.hid ?_
      go_wp2_with (go_at_call 7; refine (ref23_Text l2 c2 n2 QL QC QN _).mono ?_; rintro e w8 ⟨rfl, hb8⟩; refine Hid.out ?_)
      have HB8 := Aside0.mk (below_step HB7.out hb8)
      have HE8 := Aside0.mk (HE.out.below HB8.out)
      clear hb8
      refine Lib.hid ?_
      go_wp2_with (go_at_call 4; refine (awake_true _ HE8).mono ?_; rintro e w9 ⟨rfl, hb9⟩; refine Hid.out ?_)
      have HB9 := Aside0.mk (below_step HB8.out hb9)
      clear hb9
      refine Lib.hid ?_
      go_wp2
      go_ret
      exact ⟨rfl, HB9.out⟩
end Go.Proofs.YtgldhpbbjngcaaaDoor
