/- status.Parse. -/
import Derived.Test.YtgldhpbbjngcaaaDoorS8
import Derived.Lib.SplitLaws
set_option linter.unusedVariables false
set_option linter.unusedSimpArgs false
namespace Go.Proofs.YtgldhpbbjngcaaaDoor
open Go.RowKit Go.Proofs.YtgldhpbbjngcaaaDoorW.PrintWords

def sp : ByteArray := ⟨#[32]⟩
theorem splitB_sizes (sep : ByteArray) : ∀ (k : Nat) (s p : ByteArray), p ∈ Lib.splitB sep 0 k s → p.size ≤ s.size
  | 0, s, p, h => by
    rw [Lib.splitB_zero, List.mem_singleton] at h
    subst h; exact Nat.le_refl _
  | k + 1, s, p, h => by
    rcases Lib.indexB_cases s sep with h1 | ⟨i, h1, h2⟩
    · rw [Lib.splitB_miss _ _ _ _ h1, List.mem_singleton] at h
      subst h; exact Nat.le_refl _
    · rw [Lib.splitB_hit _ _ _ _ i h1, List.mem_cons] at h
      rcases h with rfl | h
      · rw [ByteArray.size_extract]; omega
      · have := splitB_sizes sep k _ p h
        rw [ByteArray.size_extract] at this
        omega

/-- What is parsed: a status, or nothing. -/
def parseSt (s : ByteArray) : Option (Nat × Int × Int) :=
  match Lib.splitB sp 0 (Lib.countB s sp) s with
  | [_, p1, _, p3, _, p5] =>
    match Lib.parseUintB 64 p1.data.toList, Lib.atoiAll p3.data.toList, Lib.atoiAll p5.data.toList with
    | .ok l, .ok c, .ok n => if stText l c n = s.data.toList then some (l, c, n) else none
    | _, _, _ => none
  | _ => none

theorem PU_ok (s : ByteArray) (hs : s.size ≤ 200) (u : Nat) (h : Lib.parseUintB 64 s.data.toList = .ok u) (w : World) : Calls Tryd.prog 14 #[.string s, .int .i64 10, .int .i64 64] w fun e w' => e = .returned (.tuple #[.int .u64 u, .nilIface]) ∧ Below w.heap.size w w' := by
  refine (Tryd.strconv_ParseUint_10_at64_ok s (by omega) u h w).mono ?_
  rintro e w' ⟨rfl, rfl | rfl⟩
  · exact ⟨rfl, Below.refl _ _⟩
  · exact ⟨rfl, Lib.bytesWorld_below _ _ _⟩
def SomeErr (k : IntKind) (w : World) (e : Ending) (w' : World) : Prop := ∃ (u : Int) (t : TypeId) (v : Value), e = .returned (.tuple #[.int k u, .iface t v]) ∧ Below w.heap.size w w'
theorem PU_err (s : ByteArray) (hs : s.size ≤ 200) (h : ∀ u, Lib.parseUintB 64 s.data.toList ≠ .ok u) (w : World) (HE : Env w) : Calls Tryd.prog 14 #[.string s, .int .i64 10, .int .i64 64] w (SomeErr .u64 w) := by
  obtain ⟨t1, p1, h1⟩ := HE.syn
  obtain ⟨t2, p2, h2⟩ := HE.rng
  cases hp : Lib.parseUintB 64 s.data.toList
  · exact absurd hp (h _)
  · exact (Tryd.strconv_ParseUint_10_at64_syntax_var s (by omega) hp t1 p1 w h1).mono fun e w' ⟨N, he, _, _, hb⟩ => ⟨_, _, _, he, hb⟩
  · exact (Tryd.strconv_ParseUint_10_at64_range_var s (by omega) hp t2 p2 w h2).mono fun e w' ⟨N, he, _, _, hb⟩ => ⟨_, _, _, he, hb⟩
theorem AT_ok (s : ByteArray) (hs : s.size ≤ 200) (u : Int) (h : Lib.atoiAll s.data.toList = .ok u) (w : World) : Calls Tryd.prog 15 #[.string s] w fun e w' => e = .returned (.tuple #[.int .i64 u, .nilIface]) ∧ Below w.heap.size w w' := by
  refine (Tryd.strconv_Atoi_ok s (by omega) u h w).mono ?_
  rintro e w' ⟨rfl, rfl | ⟨t, rfl⟩⟩
  · exact ⟨rfl, Below.refl _ _⟩
  · exact ⟨rfl, Lib.bytesWorld_below _ _ _⟩
theorem AT_err (s : ByteArray) (hs : s.size ≤ 200) (h : ∀ u, Lib.atoiAll s.data.toList ≠ .ok u) (w : World) (HE : Env w) : Calls Tryd.prog 15 #[.string s] w (SomeErr .i64 w) := by
  obtain ⟨t1, p1, h1⟩ := HE.syn
  obtain ⟨t2, p2, h2⟩ := HE.rng
  cases hp : Lib.atoiAll s.data.toList
  · exact absurd hp (h _)
  · exact (Tryd.strconv_Atoi_syntax_var s (by omega) hp t1 p1 w h1).mono fun e w' ⟨N, he, _, _, hb⟩ => ⟨_, _, _, he, hb⟩
  · exact (Tryd.strconv_Atoi_range_var s (by omega) hp t2 p2 w h2).mono fun e w' ⟨N, he, _, _, hb⟩ => ⟨_, _, _, he, hb⟩
/-- Either way. -/
def UPost (p : Lib.NumEnd Nat) (w : World) (e : Ending) (w' : World) : Prop := ∃ (u : Int) (ev : Value), e = .returned (.tuple #[.int .u64 u, ev]) ∧ Below w.heap.size w w' ∧ ((ev = .nilIface ∧ ∃ n : Nat, u = n ∧ p = .ok n) ∨ ((∀ u, p ≠ .ok u) ∧ ∃ t v, ev = .iface t v))
def IPost (p : Lib.NumEnd Int) (w : World) (e : Ending) (w' : World) : Prop := ∃ (u : Int) (ev : Value), e = .returned (.tuple #[.int .i64 u, ev]) ∧ Below w.heap.size w w' ∧ ((ev = .nilIface ∧ p = .ok u) ∨ ((∀ u, p ≠ .ok u) ∧ ∃ t v, ev = .iface t v))
theorem PU_any (s : ByteArray) (hs : s.size ≤ 200) (w : World) (HE : Env w) : Calls Tryd.prog 14 #[.string s, .int .i64 10, .int .i64 64] w (UPost (Lib.parseUintB 64 s.data.toList) w) := by
  by_cases h : ∃ u, Lib.parseUintB 64 s.data.toList = .ok u
  · obtain ⟨u, h⟩ := h
    exact (PU_ok s hs u h w).mono fun e w' ⟨he, hb⟩ => ⟨_, _, he, hb, .inl ⟨rfl, u, rfl, h⟩⟩
  · have h' : ∀ u, Lib.parseUintB 64 s.data.toList ≠ .ok u := fun u e => h ⟨u, e⟩
    exact (PU_err s hs h' w HE).mono fun e w' ⟨u, t, v, he, hb⟩ => ⟨_, _, he, hb, .inr ⟨h', t, v, rfl⟩⟩
theorem AT_any (s : ByteArray) (hs : s.size ≤ 200) (w : World) (HE : Env w) : Calls Tryd.prog 15 #[.string s] w (IPost (Lib.atoiAll s.data.toList) w) := by
  by_cases h : ∃ u, Lib.atoiAll s.data.toList = .ok u
  · obtain ⟨u, h⟩ := h
    exact (AT_ok s hs u h w).mono fun e w' ⟨he, hb⟩ => ⟨_, _, he, hb, .inl ⟨rfl, h⟩⟩
  · have h' : ∀ u, Lib.atoiAll s.data.toList ≠ .ok u := fun u e => h ⟨u, e⟩
    exact (AT_err s hs h' w HE).mono fun e w' ⟨u, t, v, he, hb⟩ => ⟨_, _, he, hb, .inr ⟨h', t, v, rfl⟩⟩
theorem split_any (s : ByteArray) (hs : s.size ≤ 200) (w : World) (HE : Env w) : Calls Tryd.prog 12 #[.string s, .string ⟨#[32]⟩] w fun e w' =>
    e = .returned (.slice (some ⟨w.heap.size, 0, none⟩) (Lib.countB s sp + 1) (Lib.countB s sp + 1)) ∧ w' = w.alloc (.cells ((Lib.splitB sp 0 (Lib.countB s sp) s).map Value.string).toArray 9) := by
  obtain ⟨m, hm⟩ := HE.mx
  exact Tryd.strings_Split s sp m w (by omega) hm (by show 1 ≤ 1; omega)
/-- What Parse answers. -/
def ansOf : Option (Nat × Int × Int) → Value
  | some (l, c, n) => .tuple #[.agg #[.int .u64 (l : Int), .int .i64 c, .int .i64 n], .nilIface]
  | none => .tuple #[.agg #[.int .u64 0, .int .i64 0, .int .i64 0], .iface 47 (.int .i64 6)]

theorem parseM_le {M : Nat} : ∀ {l : List UInt8} {acc u : Nat}, acc ≤ M → Lib.parseUintM M acc l = .ok u → u ≤ M
  | [], acc, u, ha, h => by
    simp only [Lib.parseUintM] at h
    injection h with h
    omega
  | c :: l, acc, u, ha, h => by
    simp only [Lib.parseUintM] at h
    split at h
    · split at h
      · cases h
      · split at h
        · cases h
        · exact parseM_le (by omega) h
    · cases h
theorem PU_lt {l : List UInt8} {u : Nat} (h : Lib.parseUintB 64 l = .ok u) : u < 18446744073709551616 := by
  unfold Lib.parseUintB at h
  split at h
  · cases h
  · have := parseM_le (Nat.zero_le _) h
    omega
theorem none_of {s p1 p3 p5 : List UInt8} {a : Option (Nat × Int × Int)} {l c n : Int} {e1 e2 e3 : Value}
    (HP : Hid (a = (match Lib.parseUintB 64 p1, Lib.atoiAll p3, Lib.atoiAll p5 with
    | .ok l, .ok c, .ok n => if stText l c n = s then some (l, c, n) else none
    | _, _, _ => none)))
    (H1 : Hid ((e1 = .nilIface ∧ ∃ n : Nat, l = n ∧ Lib.parseUintB 64 p1 = .ok n) ∨ ((∀ u, Lib.parseUintB 64 p1 ≠ .ok u) ∧ ∃ t v, e1 = .iface t v)))
    (H2 : Hid ((e2 = .nilIface ∧ Lib.atoiAll p3 = .ok c) ∨ ((∀ u, Lib.atoiAll p3 ≠ .ok u) ∧ ∃ t v, e2 = .iface t v)))
    (H3 : Hid ((e3 = .nilIface ∧ Lib.atoiAll p5 = .ok n) ∨ ((∀ u, Lib.atoiAll p5 ≠ .ok u) ∧ ∃ t v, e3 = .iface t v)))
    (hg : ¬ (e1 = .nilIface ∧ e2 = .nilIface ∧ e3 = .nilIface)) : a = none := by
  rw [HP.out]
  split
  · rename_i h1 h2 h3
    exfalso
    apply hg
    refine ⟨?_, ?_, ?_⟩
    · rcases H1.out with ⟨h, _⟩ | ⟨h, _⟩
      · exact h
      · exact absurd h1 (h _)
    · rcases H2.out with ⟨h, _⟩ | ⟨h, _⟩
      · exact h
      · exact absurd h2 (h _)
    · rcases H3.out with ⟨h, _⟩ | ⟨h, _⟩
      · exact h
      · exact absurd h3 (h _)
  · rfl
theorem nil_or {p q : Prop} {e : Value} (H : Hid ((e = .nilIface ∧ p) ∨ (q ∧ ∃ t v, e = .iface t v))) : e = .nilIface ∨ ∃ t v, e = .iface t v := H.out.imp And.left And.right
end Go.Proofs.YtgldhpbbjngcaaaDoor
