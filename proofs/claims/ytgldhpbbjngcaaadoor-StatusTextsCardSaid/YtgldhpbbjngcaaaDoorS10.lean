/- status.Parse, walked. -/
import Derived.Test.YtgldhpbbjngcaaaDoorS9
set_option linter.unusedVariables false
set_option linter.unusedSimpArgs false
namespace Go.Proofs.YtgldhpbbjngcaaaDoor
open Go.RowKit Go.Proofs.YtgldhpbbjngcaaaDoorW.PrintWords

set_option maxHeartbeats 2000000 in
set_option maxRecDepth 100000 in
theorem parse_few (s : ByteArray) (hs : s.size ≤ 200) (w : World) (HE : Aside0 (Env w)) (m : Nat) (hm : Lib.countB s sp = m) (h6 : m ≠ 5) : Calls Tryd.prog 6 #[.string s] w fun e w' => e = .returned (ansOf none) ∧ Below w.heap.size w w' := by
  have hne : (((m : Int) + 1) != 6) = true := by rw [bne_iff_ne]; omega
  have HSP := fun W (H : Env W) => split_any s hs W H
  rw [hm] at HSP
  have HS := Lib.hid HSP
  have HA := Aside0.mk (HE.out.alloc (.cells #[.int .u64 0, .int .i64 0, .int .i64 0] 24))
  have BX := Aside0.mk (blk_below (blk_new w (.cells #[.int .u64 0, .int .i64 0, .int .i64 0] 24)) (below_alloc (Below.refl _ _) (.cells ((Lib.splitB sp 0 m s).map Value.string).toArray 9)))
  have HB := Aside0.mk (below_alloc (below_alloc (Below.refl _ w) (.cells #[.int .u64 0, .int .i64 0, .int .i64 0] 24)) (.cells ((Lib.splitB sp 0 m s).map Value.string).toArray 9))
  clear HSP hm h6 hs
  go_enter Tryd.func6, Tryd.ntmps6
  go_wp2_with (go_at_call 12; refine (HS.out _ HA.out).mono ?_; rintro e w' ⟨rfl, rfl⟩)
  go_wp2_with (go_at_call 13; refine (fault_New6 _).mono ?_; rintro e w9 ⟨rfl, hb9⟩; refine Hid.out ?_)
  have BX9 := Aside0.mk (blk_below BX.out hb9)
  have HB9 := Aside0.mk (below_step HB.out hb9)
  clear hb9
  have x0 := (blk_cell BX9.out 0).trans rfl
  have x1 := (blk_cell BX9.out 1).trans rfl
  have x2 := (blk_cell BX9.out 2).trans rfl
  have f0 := blk_frozen BX9.out 0
  have f1 := blk_frozen BX9.out 1
  have f2 := blk_frozen BX9.out 2
  refine Lib.hid ?_
  go_wp2
  refine bodyPost_ret (results_ct rfl _ _ w.heap.size _ _ _ _ rfl (blk_set (blk_set (blk_set BX9.out 0 _) 1 _) 2 _) Tryd.underlying24 rfl (by kernel_rfl)) rfl ?_
  exact ⟨rfl, ((HB9.out.setCell (p := ⟨w.heap.size, 0, none⟩) (Nat.le_refl _) _).setCell (p := ⟨w.heap.size, 1, none⟩) (Nat.le_refl _) _).setCell (p := ⟨w.heap.size, 2, none⟩) (Nat.le_refl _) _⟩

set_option maxHeartbeats 8000000 in
set_option maxRecDepth 100000 in
theorem parse_six (s p0 p1 p2 p3 p4 p5 : ByteArray) (hs : s.size ≤ 200) (w : World) (HE : Aside0 (Env w)) (hm : Lib.countB s sp = 5) (hp : Lib.splitB sp 0 5 s = [p0, p1, p2, p3, p4, p5]) (a : Option (Nat × Int × Int)) (ha : parseSt s = a) :
    Calls Tryd.prog 6 #[.string s] w fun e w' => e = .returned (ansOf a) ∧ Below w.heap.size w w' := by
  have HSP := fun W (H : Env W) => split_any s hs W H
  rw [hm, hp] at HSP
  simp only [List.map_cons, List.map_nil] at HSP
  have k1 := splitB_sizes sp 5 s p1 (by rw [hp]; simp)
  have k3 := splitB_sizes sp 5 s p3 (by rw [hp]; simp)
  have k5 := splitB_sizes sp 5 s p5 (by rw [hp]; simp)
  have HK := Lib.hid (show p1.size ≤ 200 ∧ p3.size ≤ 200 ∧ p5.size ≤ 200 from ⟨by omega, by omega, by omega⟩)
  have hps : parseSt s = (match Lib.parseUintB 64 p1.data.toList, Lib.atoiAll p3.data.toList, Lib.atoiAll p5.data.toList with
    | .ok l, .ok c, .ok n => if stText l c n = s.data.toList then some (l, c, n) else none
    | _, _, _ => none) := by
    unfold parseSt
    rw [hm, hp]
    rfl
  rw [ha] at hps
  have HP := Lib.hid hps
  have HS := Lib.hid HSP
  have HA := Aside0.mk (HE.out.alloc (.cells #[.int .u64 0, .int .i64 0, .int .i64 0] 24))
  have BX := Aside0.mk (blk_below (blk_new w (.cells #[.int .u64 0, .int .i64 0, .int .i64 0] 24)) (below_alloc (Below.refl _ _) (.cells #[.string p0, .string p1, .string p2, .string p3, .string p4, .string p5] 9)))
  have BP := Aside0.mk (blk_new (w.alloc (.cells #[.int .u64 0, .int .i64 0, .int .i64 0] 24)) (.cells #[.string p0, .string p1, .string p2, .string p3, .string p4, .string p5] 9))
  have HB := Aside0.mk (below_alloc (below_alloc (Below.refl _ w) (.cells #[.int .u64 0, .int .i64 0, .int .i64 0] 24)) (.cells #[.string p0, .string p1, .string p2, .string p3, .string p4, .string p5] 9))
  have HE1 := Aside0.mk (HE.out.below HB.out)
  simp only [World.size_alloc] at BP
  clear HSP hm hp hs ha hps k1 k3 k5
  go_enter Tryd.func6, Tryd.ntmps6
  go_wp2_with (go_at_call 12; refine (HS.out _ HA.out).mono ?_; rintro e w' ⟨rfl, rfl⟩; refine Hid.out ?_)
  refine Lib.hid ?_
  go_wp2_with (go_at_call 14; refine (PU_any p1 HK.out.1 _ HE1.out).mono ?_; rintro e w2 ⟨l, e1, rfl, hb2, hq1⟩; refine Hid.out ?_)
  have BX2 := Aside0.mk (blk_below BX.out hb2)
  have BP2 := Aside0.mk (blk_below BP.out hb2)
  have HB2 := Aside0.mk (below_step HB.out hb2)
  have HE2 := Aside0.mk (HE.out.below HB2.out)
  have HQ1 := Lib.hid hq1
  have y3 := (blk_cell BP2.out 3).trans rfl
  clear hb2 hq1
  refine Lib.hid ?_
  go_wp2_with (go_at_call 15; refine (AT_any p3 HK.out.2.1 _ HE2.out).mono ?_; rintro e w3 ⟨c, e2, rfl, hb3, hq2⟩; refine Hid.out ?_)
  have BX3 := Aside0.mk (blk_below BX2.out hb3)
  have BP3 := Aside0.mk (blk_below BP2.out hb3)
  have HB3 := Aside0.mk (below_step HB2.out hb3)
  have HE3 := Aside0.mk (HE.out.below HB3.out)
  have HQ2 := Lib.hid hq2
  have y5 := (blk_cell BP3.out 5).trans rfl
  clear hb3 hq2 y3
  refine Lib.hid ?_
  go_wp2_with (go_at_call 15; refine (AT_any p5 HK.out.2.2 _ HE3.out).mono ?_; rintro e w4 ⟨n, e3, rfl, hb4, hq3⟩; refine Hid.out ?_)
  have BX4 := Aside0.mk (blk_below BX3.out hb4)
  have HB4 := Aside0.mk (below_step HB3.out hb4)
  have HE4 := Aside0.mk (HE.out.below HB4.out)
  have HQ3 := Lib.hid hq3
  clear hb4 hq3 y5
  have BX5 := Aside0.mk (blk_below BX4.out (below_alloc (Below.refl _ _) (.cells #[.int .u64 l, .int .i64 c, .int .i64 n] 24)))
  have BO5 := Aside0.mk (blk_new w4 (.cells #[.int .u64 l, .int .i64 c, .int .i64 n] 24))
  have HB5 := Aside0.mk (below_alloc HB4.out (.cells #[.int .u64 l, .int .i64 c, .int .i64 n] 24))
  have HE5 := Aside0.mk (HE.out.below HB5.out)
  by_cases hgood : e1 = .nilIface ∧ e2 = .nilIface ∧ e3 = .nilIface
  · obtain ⟨rfl, rfl, rfl⟩ := hgood
    obtain ⟨-, l', rfl, q1⟩ | ⟨-, t1, v1, h1⟩ := HQ1.out
    rotate_left
    · cases h1
    obtain ⟨-, q2⟩ | ⟨-, t1, v1, h1⟩ := HQ2.out
    rotate_left
    · cases h1
    obtain ⟨-, q3⟩ | ⟨-, t1, v1, h1⟩ := HQ3.out
    rotate_left
    · cases h1
    have hP := HP.out
    rw [q1, q2, q3] at hP
    have BL := Aside0.mk (PU_lt q1)
    have BC := Aside0.mk (Lib.atoiAll_bounds q2)
    have BN := Aside0.mk (Lib.atoiAll_bounds q3)
    clear q1 q2 q3 HP HQ1 HQ2 HQ3
    refine Lib.hid ?_
    go_wp2_with (go_at_call 5; refine (status_Text l' c n BL BC BN _ HE5).mono ?_; rintro e w6 ⟨rfl, hb6⟩; refine Hid.out ?_)
    have BX6 := Aside0.mk (blk_below BX5.out hb6)
    have BO6 := Aside0.mk (blk_below BO5.out hb6)
    have HB6 := Aside0.mk (below_step HB5.out hb6)
    clear hb6
    by_cases heq : stText l' c n = s.data.toList
    · simp only [if_pos heq] at hP
      have HN := Lib.hid hP
      have hstr : (stText l' c n == s.toList) = true := by rw [beq_iff_eq, ByteArray.toList_eq]; exact heq
      have y0 := (blk_cell BO6.out 0).trans rfl
      have y1 := (blk_cell BO6.out 1).trans rfl
      have y2 := (blk_cell BO6.out 2).trans rfl
      have x0 := (blk_cell BX6.out 0).trans rfl
      have x1 := (blk_cell BX6.out 1).trans rfl
      have x2 := (blk_cell BX6.out 2).trans rfl
      have f0 := blk_frozen BX6.out 0
      have f1 := blk_frozen BX6.out 1
      have f2 := blk_frozen BX6.out 2
      clear heq hP
      refine Lib.hid ?_
      go_wp2
      rw [HN.out]
      refine bodyPost_ret (results_ct rfl _ _ w.heap.size _ _ _ _ rfl (blk_set (blk_set (blk_set BX6.out 0 _) 1 _) 2 _) Tryd.underlying24 rfl (by kernel_rfl)) rfl ?_
      exact ⟨rfl, ((HB6.out.setCell (p := ⟨w.heap.size, 0, none⟩) (Nat.le_refl _) _).setCell (p := ⟨w.heap.size, 1, none⟩) (Nat.le_refl _) _).setCell (p := ⟨w.heap.size, 2, none⟩) (Nat.le_refl _) _⟩
    · simp only [if_neg heq] at hP
      have HN := Lib.hid hP
      have hstr : (stText l' c n == s.toList) = false := by rw [beq_eq_false_iff_ne, ByteArray.toList_eq]; exact heq
      clear heq hP
      refine Lib.hid ?_
      go_wp2_with (go_at_call 13; refine (fault_New6 _).mono ?_; rintro e w9 ⟨rfl, hb9⟩; refine Hid.out ?_)
      have BX9 := Aside0.mk (blk_below BX6.out hb9)
      have HB9 := Aside0.mk (below_step HB6.out hb9)
      clear hb9
      have x0 := (blk_cell BX9.out 0).trans rfl
      have x1 := (blk_cell BX9.out 1).trans rfl
      have x2 := (blk_cell BX9.out 2).trans rfl
      have f0 := blk_frozen BX9.out 0
      have f1 := blk_frozen BX9.out 1
      have f2 := blk_frozen BX9.out 2
      refine Lib.hid ?_
      go_wp2
      rw [HN.out]
      refine bodyPost_ret (results_ct rfl _ _ w.heap.size _ _ _ _ rfl (blk_set (blk_set (blk_set BX9.out 0 _) 1 _) 2 _) Tryd.underlying24 rfl (by kernel_rfl)) rfl ?_
      exact ⟨rfl, ((HB9.out.setCell (p := ⟨w.heap.size, 0, none⟩) (Nat.le_refl _) _).setCell (p := ⟨w.heap.size, 1, none⟩) (Nat.le_refl _) _).setCell (p := ⟨w.heap.size, 2, none⟩) (Nat.le_refl _) _⟩
  · have HN := Lib.hid (none_of HP HQ1 HQ2 HQ3 hgood)
    have N1 := nil_or HQ1
    have N2 := nil_or HQ2
    have N3 := nil_or HQ3
    clear HP HQ1 HQ2 HQ3
    rcases N1 with rfl | ⟨t1, v1, rfl⟩
    · rcases N2 with rfl | ⟨t2, v2, rfl⟩
      · rcases N3 with rfl | ⟨t3, v3, rfl⟩
        · exact absurd ⟨rfl, rfl, rfl⟩ hgood
        · clear hgood
          refine Lib.hid ?_
          go_wp2_with (go_at_call 13; refine (fault_New6 _).mono ?_; rintro e w9 ⟨rfl, hb9⟩; refine Hid.out ?_)
          have BX9 := Aside0.mk (blk_below BX5.out hb9)
          have HB9 := Aside0.mk (below_step HB5.out hb9)
          clear hb9
          have x0 := (blk_cell BX9.out 0).trans rfl
          have x1 := (blk_cell BX9.out 1).trans rfl
          have x2 := (blk_cell BX9.out 2).trans rfl
          have f0 := blk_frozen BX9.out 0
          have f1 := blk_frozen BX9.out 1
          have f2 := blk_frozen BX9.out 2
          refine Lib.hid ?_
          go_wp2
          rw [HN.out]
          refine bodyPost_ret (results_ct rfl _ _ w.heap.size _ _ _ _ rfl (blk_set (blk_set (blk_set BX9.out 0 _) 1 _) 2 _) Tryd.underlying24 rfl (by kernel_rfl)) rfl ?_
          exact ⟨rfl, ((HB9.out.setCell (p := ⟨w.heap.size, 0, none⟩) (Nat.le_refl _) _).setCell (p := ⟨w.heap.size, 1, none⟩) (Nat.le_refl _) _).setCell (p := ⟨w.heap.size, 2, none⟩) (Nat.le_refl _) _⟩
      · clear hgood
        rcases N3 with rfl | ⟨t3, v3, rfl⟩
        all_goals
          refine Lib.hid ?_
          go_wp2_with (go_at_call 13; refine (fault_New6 _).mono ?_; rintro e w9 ⟨rfl, hb9⟩; refine Hid.out ?_)
          have BX9 := Aside0.mk (blk_below BX5.out hb9)
          have HB9 := Aside0.mk (below_step HB5.out hb9)
          clear hb9
          have x0 := (blk_cell BX9.out 0).trans rfl
          have x1 := (blk_cell BX9.out 1).trans rfl
          have x2 := (blk_cell BX9.out 2).trans rfl
          have f0 := blk_frozen BX9.out 0
          have f1 := blk_frozen BX9.out 1
          have f2 := blk_frozen BX9.out 2
          refine Lib.hid ?_
          go_wp2
          rw [HN.out]
          refine bodyPost_ret (results_ct rfl _ _ w.heap.size _ _ _ _ rfl (blk_set (blk_set (blk_set BX9.out 0 _) 1 _) 2 _) Tryd.underlying24 rfl (by kernel_rfl)) rfl ?_
          exact ⟨rfl, ((HB9.out.setCell (p := ⟨w.heap.size, 0, none⟩) (Nat.le_refl _) _).setCell (p := ⟨w.heap.size, 1, none⟩) (Nat.le_refl _) _).setCell (p := ⟨w.heap.size, 2, none⟩) (Nat.le_refl _) _⟩
    · clear hgood
      rcases N2 with rfl | ⟨t2, v2, rfl⟩
      all_goals
        rcases N3 with rfl | ⟨t3, v3, rfl⟩
        all_goals
          refine Lib.hid ?_
          go_wp2_with (go_at_call 13; refine (fault_New6 _).mono ?_; rintro e w9 ⟨rfl, hb9⟩; refine Hid.out ?_)
          have BX9 := Aside0.mk (blk_below BX5.out hb9)
          have HB9 := Aside0.mk (below_step HB5.out hb9)
          clear hb9
          have x0 := (blk_cell BX9.out 0).trans rfl
          have x1 := (blk_cell BX9.out 1).trans rfl
          have x2 := (blk_cell BX9.out 2).trans rfl
          have f0 := blk_frozen BX9.out 0
          have f1 := blk_frozen BX9.out 1
          have f2 := blk_frozen BX9.out 2
          refine Lib.hid ?_
          go_wp2
          rw [HN.out]
          refine bodyPost_ret (results_ct rfl _ _ w.heap.size _ _ _ _ rfl (blk_set (blk_set (blk_set BX9.out 0 _) 1 _) 2 _) Tryd.underlying24 rfl (by kernel_rfl)) rfl ?_
          exact ⟨rfl, ((HB9.out.setCell (p := ⟨w.heap.size, 0, none⟩) (Nat.le_refl _) _).setCell (p := ⟨w.heap.size, 1, none⟩) (Nat.le_refl _) _).setCell (p := ⟨w.heap.size, 2, none⟩) (Nat.le_refl _) _⟩
end Go.Proofs.YtgldhpbbjngcaaaDoor
