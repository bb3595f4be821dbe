/- status.Text: six words. -/
import Derived.Test.YtgldhpbbjngcaaaDoorS6
import Derived.Test.YtgldhpbbjngcaaaDoorWLast
import Derived.Test.YtgldhpbbjngcaaaDoorWTab
set_option linter.unusedVariables false
set_option linter.unusedSimpArgs false
namespace Go.Proofs.YtgldhpbbjngcaaaDoor
open Go.RowKit Go.Proofs.YtgldhpbbjngcaaaDoorW.PrintWords Go.Proofs.YtgldhpbbjngcaaaDoorW.PrintLast
attribute [local go_sem] Oper.semAt_some

/-! ### What the library's variables hold -/
theorem var?_below {P : Program} {w w1 : World} {n : String} {cs : Array Value} (h : w.var? P n = some cs) (hb : Below w.heap.size w w1) : w1.var? P n = some cs := by
  unfold World.var? at *
  cases hg : P.globalNamed n with
  | none => simp [hg] at h
  | some g =>
    simp only [hg, Option.bind_some] at h ⊢
    have hlt : g < w.heap.size := by
      rcases Nat.lt_or_ge g w.heap.size with h1 | h1
      · exact h1
      · rw [Array.getElem?_eq_none h1] at h; simp at h
    rw [hb.block g hlt]; exact h
structure Env (w : World) : Prop where
  ety : ETy w
  tab : Lib.TabIs Tryd.prog w "internal/strconv.uint64pow10" .u64 Lib.pow10Tab
  syn : ∃ tp p, w.var? Tryd.prog "strconv.ErrSyntax" = some #[.iface tp p]
  rng : ∃ tp p, w.var? Tryd.prog "strconv.ErrRange" = some #[.iface tp p]
  mx : ∃ m, w.cell? ⟨4, 0, none⟩ = some (.int .i64 m)
theorem Env.below {w w1 : World} (h : Env w) (hb : Below w.heap.size w w1) : Env w1 := by
  obtain ⟨h1, h2, ⟨t1, p1, h3⟩, ⟨t2, p2, h4⟩, ⟨m, h5⟩⟩ := h
  exact ⟨h1.below hb, var?_below h2 hb, ⟨t1, p1, var?_below h3 hb⟩, ⟨t2, p2, var?_below h4 hb⟩, ⟨m, pw_cell_below hb h5⟩⟩
theorem Env.alloc {w : World} (h : Env w) (o : Obj) : Env (w.alloc o) := h.below (below_alloc (Below.refl _ _) o)
theorem Env.drew {w : World} (h : Env w) : Env w.drew := h.below (below_drew (Below.refl _ _))

theorem blk_belowD' {w wd w1 : World} {g : Nat} {o : Obj} (h : w.heap[g]? = some o) (hb : Below wd.heap.size wd w1) (hd : wd.heap = w.heap) : w1.heap[g]? = some o := blk_below (by rw [hd]; exact h) hb
theorem str_cells {w : World} {b T : Nat} {xs : List ByteArray} (h : w.heap[b]? = some (.cells (xs.map Value.string).toArray T (0, 0))) (j : Nat) (x : ByteArray) (hx : xs[j]? = some x) : w.cell? ⟨b, 0 + j, none⟩ = some (.string x) := by
  rw [blk_cell h, Nat.zero_add]
  simp [hx]

def sixB (l : Nat) (c n : Int) : List ByteArray := [⟨#[108, 97, 115, 116]⟩, ⟨(Lib.decDigits l).toArray⟩, ⟨#[99, 117, 114, 114, 101, 110, 116]⟩, ⟨(Lib.itoa c).toArray⟩, ⟨#[110, 101, 120, 116]⟩, ⟨(Lib.itoa n).toArray⟩]
theorem sixB_join (l : Nat) (c n : Int) : Lib.join ((sixB l c n).map (·.data.toList)) (⟨#[32]⟩ : ByteArray).data.toList = stText l c n := six_join wLast (Lib.decDigits l) wCurrent (Lib.itoa c) wNext (Lib.itoa n)
theorem join_six (l : Nat) (c n : Int) (hl : Aside0 (l < 18446744073709551616)) (hc : Aside0 (-9223372036854775808 ≤ c ∧ c ≤ 9223372036854775807)) (hn : Aside0 (-9223372036854775808 ≤ n ∧ n ≤ 9223372036854775807)) (b : Nat) (w : World)
    (h : w.heap[b]? = some (.cells #[.string ⟨#[108, 97, 115, 116]⟩, .string ⟨(Lib.decDigits l).toArray⟩, .string ⟨#[99, 117, 114, 114, 101, 110, 116]⟩, .string ⟨(Lib.itoa c).toArray⟩, .string ⟨#[110, 101, 120, 116]⟩, .string ⟨(Lib.itoa n).toArray⟩] 9 (0, 0))) :
    Calls Tryd.prog 9 #[.slice (some ⟨b, 0, none⟩) 6 6, .string ⟨#[32]⟩] w fun e w' => e = .returned (.string ⟨(stText l c n).toArray⟩) ∧ Below w.heap.size w w' := by
  have hj := Tryd.strings_Join b 0 6 (sixB l c n) ⟨#[32]⟩ w (str_cells (xs := sixB l c n) h) (blk_lt h) (by show 6 ≤ _; omega) (by show 6 ≤ 6; omega) (by rw [sixB_join]; have := stText_len l c n hl.out hc.out.1 hc.out.2 hn.out.1 hn.out.2; omega)
  rw [sixB_join] at hj
  exact hj

set_option maxRecDepth 100000 in
set_option maxHeartbeats 2000000 in
theorem status_Text (l : Nat) (c n : Int) (hl : Aside0 (l < 18446744073709551616)) (hc : Aside0 (-9223372036854775808 ≤ c ∧ c ≤ 9223372036854775807)) (hn : Aside0 (-9223372036854775808 ≤ n ∧ n ≤ 9223372036854775807)) (w : World) (HE : Aside0 (Env w)) :
    Calls Tryd.prog 5 #[.agg #[.int .u64 (l : Int), .int .i64 c, .int .i64 n]] w fun e w' => e = .returned (.string ⟨(stText l c n).toArray⟩) ∧ Below w.heap.size w w' := by
  have BX := Aside0.mk (blk_new w (.cells #[.int .u64 (l : Int), .int .i64 c, .int .i64 n] 24))
  have HE0 := Aside0.mk (HE.out.alloc (.cells #[.int .u64 (l : Int), .int .i64 c, .int .i64 n] 24))
  go_enter Tryd.func5, Tryd.ntmps5
  go_upto_region 1 with fail
  refine start_ (n := 12) (S := fun w' => w'.cell? ⟨w.heap.size, 0, none⟩ = some (.int .u64 (l : Int)) ∧ w'.cell? ⟨w.heap.size, 1, none⟩ = some (.int .i64 c) ∧ w'.cell? ⟨w.heap.size, 2, none⟩ = some (.int .i64 n)) (ds := []) #[false, false, false, false, false, false, false, false, false, false, false, false] (by kernel_rfl) rfl rfl ⟨(blk_cell BX.out 0).trans rfl, (blk_cell BX.out 1).trans rfl, (blk_cell BX.out 2).trans rfl⟩ (fun hHeld => ?_)
  refine pure_ (i := 0) (N := some 3) (v := ?_) (a' := ?_) #[true, false, false, false, false, false, false, false, false, false, false, false] rfl rfl (any_of rfl (by kernel_rfl)) (fun _ _ _ h => h) (Or.inl ⟨by rfl, ?_⟩) ?_ ?_
  rotate_left
  · intro w'
    go_simp
    with_reducible rfl
  rotate_left
  · simp only [Act.put, List.setIfInBounds_toArray, List.set_cons_zero, List.set_cons_succ, i64_w, i32_w]
    rfl
  refine pure_ (i := 3) (N := some 6) (v := ?_) (a' := ?_) #[true, false, false, true, false, false, false, false, false, false, false, false] rfl rfl (any_of rfl (by kernel_rfl)) (fun _ _ _ h => h) (Or.inl ⟨by rfl, ?_⟩) ?_ ?_
  rotate_left
  · intro w'
    go_simp
    with_reducible rfl
  rotate_left
  · simp only [Act.put, List.setIfInBounds_toArray, List.set_cons_zero, List.set_cons_succ, i64_w, i32_w]
    rfl
  refine pure_ (i := 6) (N := some 9) (v := ?_) (a' := ?_) #[true, false, false, true, false, false, true, false, false, false, false, false] rfl rfl (any_of rfl (by kernel_rfl)) (fun _ _ _ h => h) (Or.inl ⟨by rfl, ?_⟩) ?_ ?_
  rotate_left
  · intro w'
    go_simp
    with_reducible rfl
  rotate_left
  · simp only [Act.put, List.setIfInBounds_toArray, List.set_cons_zero, List.set_cons_succ, i64_w, i32_w]
    rfl
  refine take_ (i := 1) (N := some 4) (v := ?_) (a' := ?_) #[true, true, false, true, false, false, true, false, false, false, false, false] rfl rfl (take_of rfl (by kernel_rfl)) (fun _ _ _ h => h) (Or.inl ⟨by rfl, ?_⟩) hHeld ?_ ?_
  rotate_left
  · rintro w' ⟨s0, s1, s2⟩
    go_simp
    with_reducible rfl
  rotate_left
  · simp only [Act.put, List.setIfInBounds_toArray, List.set_cons_zero, List.set_cons_succ, i64_w, i32_w]
    rfl
  refine take_ (i := 4) (N := some 7) (v := ?_) (a' := ?_) #[true, true, false, true, true, false, true, false, false, false, false, false] rfl rfl (take_of rfl (by kernel_rfl)) (fun _ _ _ h => h) (Or.inl ⟨by rfl, ?_⟩) hHeld ?_ ?_
  rotate_left
  · rintro w' ⟨s0, s1, s2⟩
    go_simp
    with_reducible rfl
  rotate_left
  · simp only [Act.put, List.setIfInBounds_toArray, List.set_cons_zero, List.set_cons_succ, i64_w, i32_w]
    rfl
  refine take_ (i := 7) (N := some 10) (v := ?_) (a' := ?_) #[true, true, false, true, true, false, true, true, false, false, false, false] rfl rfl (take_of rfl (by kernel_rfl)) (fun _ _ _ h => h) (Or.inl ⟨by rfl, ?_⟩) hHeld ?_ ?_
  rotate_left
  · rintro w' ⟨s0, s1, s2⟩
    go_simp
    with_reducible rfl
  rotate_left
  · simp only [Act.put, List.setIfInBounds_toArray, List.set_cons_zero, List.set_cons_succ, i64_w, i32_w]
    rfl
  refine one_ (i := 2) (N := some 5) #[true, true, true, true, true, false, true, true, false, false, false, false] rfl rfl (one_of rfl (by kernel_rfl)) (by decide) (fun K hK => ?_)
  refine goes_ Tryd.func10 (by kernel_rfl) rfl #[.int .u64 (l : Int), .int .i64 10] (by rfl) rfl rfl (by (try simp only [List.map_toArray, List.map_cons, List.map_nil]); rfl) ?_
  refine (strconv_FormatUint l hl.out _ (HE0.out.drew).tab).mono ?_
  rintro e w2 ⟨rfl, hb2⟩
  have BX2 := Aside0.mk (blk_belowD' BX.out hb2 rfl)
  have HB2 := Aside0.mk (below_step (below_drew (below_alloc (Below.refl _ w) _)) hb2)
  have HE2 := Aside0.mk (HE.out.below HB2.out)
  refine ⟨_, rfl, ?_⟩
  refine hK.out _ _ ⟨(blk_cell BX2.out 0).trans rfl, (blk_cell BX2.out 1).trans rfl, (blk_cell BX2.out 2).trans rfl⟩ (fun hHeld => ?_)
  clear hb2
  clear hK K
  refine norm_ (a' := ?_) ?_ ?_
  rotate_left
  · show Act.put _ (some 5) _ = _
    simp only [Act.put, List.setIfInBounds_toArray, List.set_cons_zero, List.set_cons_succ, i64_w, i32_w]
    rfl
  refine one_ (i := 5) (N := some 8) #[true, true, true, true, true, true, true, true, false, false, false, false] rfl rfl (one_of rfl (by kernel_rfl)) (by decide) (fun K hK => ?_)
  refine goes_ Tryd.func11 (by kernel_rfl) rfl #[.int .i64 c] (by rfl) rfl rfl (by (try simp only [List.map_toArray, List.map_cons, List.map_nil]); rfl) ?_
  refine (Tryd.strconv_Itoa c hc.out.1 hc.out.2 _ HE2.out.tab).mono ?_
  rintro e w3 ⟨rfl, k3, os3, hw3⟩
  have hb3 : Below w2.heap.size w2 w3 := by rw [hw3]; exact below_step (pw_below_drewN (Below.refl _ _) k3) (below_grow _ os3)
  clear hw3
  have BX3 := Aside0.mk (blk_below BX2.out hb3)
  have HB3 := Aside0.mk (below_step HB2.out hb3)
  have HE3 := Aside0.mk (HE.out.below HB3.out)
  refine ⟨_, rfl, ?_⟩
  refine hK.out _ _ ⟨(blk_cell BX3.out 0).trans rfl, (blk_cell BX3.out 1).trans rfl, (blk_cell BX3.out 2).trans rfl⟩ (fun hHeld => ?_)
  clear hb3
  clear hK K
  refine norm_ (a' := ?_) ?_ ?_
  rotate_left
  · show Act.put _ (some 8) _ = _
    simp only [Act.put, List.setIfInBounds_toArray, List.set_cons_zero, List.set_cons_succ, i64_w, i32_w]
    rfl
  refine one_ (i := 8) (N := some 11) #[true, true, true, true, true, true, true, true, true, false, false, false] rfl rfl (one_of rfl (by kernel_rfl)) (by decide) (fun K hK => ?_)
  refine goes_ Tryd.func11 (by kernel_rfl) rfl #[.int .i64 n] (by rfl) rfl rfl (by (try simp only [List.map_toArray, List.map_cons, List.map_nil]); rfl) ?_
  refine (Tryd.strconv_Itoa n hn.out.1 hn.out.2 _ HE3.out.tab).mono ?_
  rintro e w4 ⟨rfl, k4, os4, hw4⟩
  have hb4 : Below w3.heap.size w3 w4 := by rw [hw4]; exact below_step (pw_below_drewN (Below.refl _ _) k4) (below_grow _ os4)
  clear hw4
  have BX4 := Aside0.mk (blk_below BX3.out hb4)
  have HB4 := Aside0.mk (below_step HB3.out hb4)
  refine ⟨_, rfl, ?_⟩
  refine hK.out _ _ ⟨(blk_cell BX4.out 0).trans rfl, (blk_cell BX4.out 1).trans rfl, (blk_cell BX4.out 2).trans rfl⟩ (fun hHeld => ?_)
  clear hb4
  clear hK K
  refine norm_ (a' := ?_) ?_ ?_
  rotate_left
  · show Act.put _ (some 11) _ = _
    simp only [Act.put, List.setIfInBounds_toArray, List.set_cons_zero, List.set_cons_succ, i64_w, i32_w]
    rfl
  refine one_ (i := 9) (N := some 12) #[true, true, true, true, true, true, true, true, true, true, false, false] rfl rfl (one_of rfl (by kernel_rfl)) (by decide) (fun K hK => ?_)
  refine value_ (w1 := ?_) (v := ?_) (by rfl) rfl ?_ ?_
  rotate_left 2
  · go_simp
    refine And.intro ?_ ?_ <;> rfl
  have BY := Aside0.mk (blk_new w4 (.cells #[.string ⟨#[108, 97, 115, 116]⟩, .string ⟨(Lib.decDigits l).toArray⟩, .string ⟨#[99, 117, 114, 114, 101, 110, 116]⟩, .string ⟨(Lib.itoa c).toArray⟩, .string ⟨#[110, 101, 120, 116]⟩, .string ⟨(Lib.itoa n).toArray⟩] 9))
  have BX5 := Aside0.mk (blk_below BX4.out (below_alloc (Below.refl _ _) (.cells #[.string ⟨#[108, 97, 115, 116]⟩, .string ⟨(Lib.decDigits l).toArray⟩, .string ⟨#[99, 117, 114, 114, 101, 110, 116]⟩, .string ⟨(Lib.itoa c).toArray⟩, .string ⟨#[110, 101, 120, 116]⟩, .string ⟨(Lib.itoa n).toArray⟩] 9)))
  have HB5 := Aside0.mk (below_alloc HB4.out (.cells #[.string ⟨#[108, 97, 115, 116]⟩, .string ⟨(Lib.decDigits l).toArray⟩, .string ⟨#[99, 117, 114, 114, 101, 110, 116]⟩, .string ⟨(Lib.itoa c).toArray⟩, .string ⟨#[110, 101, 120, 116]⟩, .string ⟨(Lib.itoa n).toArray⟩] 9))
  refine hK.out _ _ ⟨(blk_cell BX5.out 0).trans rfl, (blk_cell BX5.out 1).trans rfl, (blk_cell BX5.out 2).trans rfl⟩ (fun hHeld => ?_)
  clear hK K
  refine norm_ (a' := ?_) ?_ ?_
  rotate_left
  · show Act.put _ (some 12) _ = _
    simp only [Act.put, List.setIfInBounds_toArray, List.set_cons_zero, List.set_cons_succ, i64_w, i32_w]
    rfl
  refine one_ (i := 10) (N := some 13) #[true, true, true, true, true, true, true, true, true, true, true, false] rfl rfl (one_of rfl (by kernel_rfl)) (by decide) (fun K hK => ?_)
  refine goes_ Tryd.func9 (by kernel_rfl) rfl #[.slice (some ⟨w4.heap.size, 0, none⟩) 6 6, .string ⟨#[32]⟩] (by rfl) rfl rfl (by (try simp only [List.map_toArray, List.map_cons, List.map_nil]); rfl) ?_
  refine (join_six l c n hl hc hn _ _ BY.out).mono ?_
  rintro e w6 ⟨rfl, hb6⟩
  have BX6 := Aside0.mk (blk_below BX5.out hb6)
  have HB6 := Aside0.mk (below_step HB5.out hb6)
  refine ⟨_, rfl, ?_⟩
  refine hK.out _ _ ⟨(blk_cell BX6.out 0).trans rfl, (blk_cell BX6.out 1).trans rfl, (blk_cell BX6.out 2).trans rfl⟩ (fun hHeld => ?_)
  clear hb6
  clear hK K
  refine norm_ (a' := ?_) ?_ ?_
  rotate_left
  · show Act.put _ (some 13) _ = _
    simp only [Act.put, List.setIfInBounds_toArray, List.set_cons_zero, List.set_cons_succ, i64_w, i32_w]
    rfl
  refine pure_ (i := 11) (N := some 2) (v := ?_) (a' := ?_) #[true, true, true, true, true, true, true, true, true, true, true, true] rfl rfl (any_of rfl (by kernel_rfl)) (fun _ _ _ h => h) (Or.inl ⟨by rfl, ?_⟩) ?_ ?_
  rotate_left
  · intro w'
    go_simp
    with_reducible rfl
  rotate_left
  · simp only [Act.put, List.setIfInBounds_toArray, List.set_cons_zero, List.set_cons_succ, i64_w, i32_w]
    rfl
  refine done_ (done_of rfl (by kernel_rfl)) ?_

  go_wp2
  go_ret
  exact ⟨rfl, HB6.out⟩
end Go.Proofs.YtgldhpbbjngcaaaDoor
