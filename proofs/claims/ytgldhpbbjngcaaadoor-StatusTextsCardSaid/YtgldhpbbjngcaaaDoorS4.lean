/- fault.New of a class; fault.Of of it. -/
import Derived.Test.YtgldhpbbjngcaaaDoorS3
import Derived.Test.YtgldhpbbjngcaaaDoorWWords
import Derived.RegionTactic
import Derived.Outline
set_option linter.unusedVariables false
namespace Go.Proofs.YtgldhpbbjngcaaaDoor
open Go.RowKit Go.Proofs.YtgldhpbbjngcaaaDoorW.PrintWords

theorem fault_New6 (w : World) : Calls Tryd.prog 13 #[.int .i64 6] w fun e w' => e = .returned (.iface 47 (.int .i64 6)) ∧ Below w.heap.size w w' := by
  go_enter Tryd.func13, Tryd.ntmps13
  go_wp2
  go_ret
  exact ⟨rfl, by repeat (first | exact Below.refl _ _ | apply below_alloc | apply below_drew)⟩

/-- What the library's variable errors.errorType holds. -/
def ETy (w : World) : Prop := w.cell? ⟨0, 0, none⟩ = some (.iface 98 (.agg #[.pointer (some ⟨9, 28, none⟩)]))
theorem ETy.lt {w : World} (h : ETy w) : 0 < w.heap.size := by
  rcases Nat.lt_or_ge 0 w.heap.size with h1 | h1
  · exact h1
  · simp [ETy, World.cell?, Array.getElem?_eq_none h1] at h
theorem ETy.below {w w1 : World} (h : ETy w) (hb : Below w.heap.size w w1) : ETy w1 := (hb.cell (p := ⟨0, 0, none⟩) h.lt).trans h
theorem ETy.alloc {w : World} (h : ETy w) (o : Obj) : ETy (w.alloc o) := h.below (below_alloc (Below.refl _ _) o)

set_option maxHeartbeats 4000000 in
theorem fault_Of_class (k : Int) (w : World) (hg : ETy w) :
    Calls Tryd.prog 8 #[.iface 47 (.int .i64 k)] w fun e w' => e = .returned (.agg #[.int .i64 k, .int .i64 0, .int .i64 0]) ∧ Below w.heap.size w w' := by
  have hT : ∀ o1 o2 v T, (((w.alloc o1).alloc o2).alloc (.cells #[v] T)).cell? ⟨w.heap.size + 1 + 1, 0, none⟩ = some v := by
    intro o1 o2 v T
    rw [World.cell?_alloc_at _ _ _ _ (by simp)]; rfl
  have hF : ∀ o1 o2 v T, (((w.alloc o1).alloc o2).alloc (.cells #[v] T)).frozen? ⟨w.heap.size + 1 + 1, 0, none⟩ = false := by
    intro o1 o2 v T
    have h := World.frozen?_alloc_new ((w.alloc o1).alloc o2) #[v] T 0
    simpa using h
  have HG := Lib.hid hg
  have HT := Lib.hid hT
  have HF := Lib.hid hF
  clear hg hT hF
  go_enter Tryd.func8, Tryd.ntmps8
  go_wp2_with (go_at_call 18; go_loud (refine (as_class_class k _ _ (show ETy _ from ((HG.out.alloc _).alloc _).alloc _) (.int .i64 0) (HT.out _ _ _ _) (HF.out _ _ _ _)).mono ?_; rintro e w' ⟨rfl, rfl⟩; refine Hid.out ?_))
  refine Lib.hid ?_
  go_wp2_with (go_at_call 18; go_loud (refine (as_class_section k _ _ (show ETy _ from by repeat (first | exact HG.out | refine ETy.alloc ?_ _))).mono ?_; rintro e w' ⟨rfl, rfl⟩; refine Hid.out ?_))
  refine Lib.hid ?_
  go_wp2_with (go_at_call 18; go_loud (refine (as_class_place k _ _ (show ETy _ from by repeat (first | exact HG.out | refine ETy.alloc ?_ _))).mono ?_; rintro e w' ⟨rfl, rfl⟩; refine Hid.out ?_))
  refine Lib.hid ?_
  go_wp2
  exact bodyPost_ret (v := .agg #[.int .i64 k, .int .i64 0, .int .i64 0]) (by simp [results, Tryd.results8, go_sem]) rfl ⟨rfl, by repeat (first | exact Below.refl _ _ | apply below_alloc | apply below_drew)⟩
end Go.Proofs.YtgldhpbbjngcaaaDoor
