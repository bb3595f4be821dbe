/- status.Parse at every text; the law's walk. -/
import Derived.Test.YtgldhpbbjngcaaaDoorS10
set_option linter.unusedVariables false
set_option linter.unusedSimpArgs false
namespace Go.Proofs.YtgldhpbbjngcaaaDoor
open Go.RowKit Go.Proofs.YtgldhpbbjngcaaaDoorW.PrintWords

theorem parseSt_few {s : ByteArray} (h : Lib.countB s sp ≠ 5) : parseSt s = none := by
  have hl := Lib.splitB_all sp (by show 1 ≤ 1; omega) 0 _ s rfl
  unfold parseSt
  split
  · rename_i h1
    rw [h1] at hl
    simp at hl
    omega
  · rfl
theorem status_Parse (s : ByteArray) (hs : s.size ≤ 200) (w : World) (HE : Aside0 (Env w)) : Calls Tryd.prog 6 #[.string s] w fun e w' => e = .returned (ansOf (parseSt s)) ∧ Below w.heap.size w w' := by
  by_cases h5 : Lib.countB s sp = 5
  · have hl := Lib.splitB_all sp (by show 1 ≤ 1; omega) 0 _ s h5
    obtain ⟨p0, p1, p2, p3, p4, p5, hp⟩ : ∃ p0 p1 p2 p3 p4 p5, Lib.splitB sp 0 5 s = [p0, p1, p2, p3, p4, p5] := by
      match h : Lib.splitB sp 0 5 s, hl with
      | [p0, p1, p2, p3, p4, p5], _ => exact ⟨p0, p1, p2, p3, p4, p5, rfl⟩
    exact parse_six s p0 p1 p2 p3 p4 p5 hs w HE h5 hp _ rfl
  · rw [parseSt_few h5]
    exact parse_few s hs w HE _ rfl h5
def tB (l : Nat) (c n : Int) : ByteArray := ⟨(stText l c n).toArray⟩
theorem parseSt_text (l : Nat) (c n : Int) (hl : l < 18446744073709551616) (hc : -9223372036854775808 ≤ c ∧ c ≤ 9223372036854775807) (hn : -9223372036854775808 ≤ n ∧ n ≤ 9223372036854775807) : parseSt (tB l c n) = some (l, c, n) := by
  have hc5 : Lib.countB (tB l c n) sp = 5 := stText_count l c n
  have hd := Lib.splitB_data sp 0 5 (tB l c n)
  have hk : Lib.splitK sp.data.toList 0 5 (tB l c n).data.toList = [wLast, Lib.decDigits l, wCurrent, Lib.itoa c, wNext, Lib.itoa n] := stText_split l c n
  rw [hk] at hd
  unfold parseSt
  rw [hc5]
  obtain ⟨p0, p1, p2, p3, p4, p5, hp⟩ : ∃ p0 p1 p2 p3 p4 p5, Lib.splitB sp 0 5 (tB l c n) = [p0, p1, p2, p3, p4, p5] := by
    have hl := Lib.splitB_all sp (by show 1 ≤ 1; omega) 0 _ (tB l c n) hc5
    match h : Lib.splitB sp 0 5 (tB l c n), hl with
    | [p0, p1, p2, p3, p4, p5], _ => exact ⟨p0, p1, p2, p3, p4, p5, rfl⟩
  rw [hp] at hd ⊢
  simp only [List.map_cons, List.map_nil, List.cons.injEq, and_true] at hd
  obtain ⟨_, h1, _, h3, _, h5⟩ := hd
  simp only [h1, h3, h5, parseB_dec l hl, atoi_itoa c hc.1 hc.2, atoi_itoa n hn.1 hn.2]
  exact if_pos rfl
theorem parseSt_some {s : ByteArray} {l : Nat} {c n : Int} (h : parseSt s = some (l, c, n)) : stText l c n = s.data.toList ∧ l < 18446744073709551616 ∧ (-9223372036854775808 ≤ c ∧ c ≤ 9223372036854775807) ∧ (-9223372036854775808 ≤ n ∧ n ≤ 9223372036854775807) := by
  unfold parseSt at h
  split at h
  · split at h
    · rename_i h1 h2 h3
      split at h
      · rename_i he
        injection h with h
        injection h with h4 h
        injection h with h5 h6
        subst h4 h5 h6
        exact ⟨he, PU_lt h1, Lib.atoiAll_bounds h2, Lib.atoiAll_bounds h3⟩
      · cases h
    · cases h
  · cases h

theorem awake_true (w : World) (HE : Aside0 (Env w)) : Calls Tryd.prog 4 #[] w fun e w' => e = .returned (.bool true) ∧ Below w.heap.size w w' := by
  have hstr : (stText 0 0 0 == [108, 97, 115, 116, 32, 48, 32, 99, 117, 114, 114, 101, 110, 116, 32, 48, 32, 110, 101, 120, 116, 32, 48]) = true := by
    simp [stText, sixWords, Lib.itoa, Lib.decDigits, wLast, wCurrent, wNext]
  go_enter Tryd.func4, Tryd.ntmps4
  go_wp2_with (go_at_call 5; refine (status_Text 0 0 0 ⟨by omega⟩ ⟨by omega⟩ ⟨by omega⟩ _ HE).mono ?_; rintro e w6 ⟨rfl, hb6⟩; refine Hid.out ?_)
  have HB := Aside0.mk hb6
  clear hb6
  refine Lib.hid ?_
  go_wp2
  go_ret
  exact ⟨rfl, HB.out⟩
end Go.Proofs.YtgldhpbbjngcaaaDoor
