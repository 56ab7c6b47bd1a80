/- Drawn stamps and records. -/
import Derived.Test.YtenekpkjlgddnaaP61
import Derived.Test.YtenekpkjlgddnaaC0
set_option linter.unusedVariables false
set_option linter.unusedSimpArgs false
namespace Go.Proofs.Ytenekpkjlgddnaa
open Go.Sx Go.RowKit

/-- A drawn record as it is mostly. -/
def Fair (r : Record) : Prop := (0 ≤ r.op ∧ r.op < 5) ∧ (0 ≤ r.stamp.epoch ∧ r.stamp.epoch < 4) ∧ (0 ≤ r.stamp.turn ∧ r.stamp.turn < 5) ∧ (0 ≤ r.key ∧ r.key < 12) ∧ (0 ≤ r.val ∧ r.val < 40)

theorem in64 {n : Int} (h1 : -9223372036854775808 ≤ n) (h2 : n ≤ 9223372036854775807) : inInt .i64 n := ⟨h1, h2⟩

theorem Fair.wf {r : Record} (h : Fair r) : r.wf := by
  obtain ⟨h1, h2, h3, h4, h5⟩ := h
  exact ⟨in64 (by omega) (by omega), ⟨in64 (by omega) (by omega), in64 (by omega) (by omega)⟩, in64 (by omega) (by omega), in64 (by omega) (by omega)⟩

theorem spec_l02Stamp_ret (b : List Int) (c : Cur) (hc : c.ok b) : ∃ (d : Cur) (s : Stamp), d.ok b ∧ ((0 ≤ s.epoch ∧ s.epoch < 4) ∧ (0 ≤ s.turn ∧ s.turn < 5)) ∧ RetR Try.prog 81 [.cur (c.e b) (d.e b)] (.vals [.agg s.e]) := by
  obtain ⟨d1, x, o1, h1, r1⟩ := spec_l01Below_ret b c 4 hc (by omega)
  obtain ⟨d2, y, o2, h2, r2⟩ := spec_l01Below_ret b d1 5 o1 (by omega)
  exact ⟨d2, ⟨x, y⟩, o2, ⟨h1, h2⟩, spec_l02Stamp_p0 _ _ _ _ _ _ _ _ _ ⟨r1, r2, trivial⟩⟩

theorem pick_in {n : Int} {xs : List Int} (h : n ∈ xs) (hx : (xs.all fun x => decide (-9223372036854775808 ≤ x) && decide (x ≤ 9223372036854775807)) = true) : inInt .i64 n := by
  have := List.all_eq_true.1 hx n h
  simp only [Bool.and_eq_true, decide_eq_true_eq] at this
  exact this

theorem spec_l02Any_ret (b : List Int) (c : Cur) (hc : c.ok b) : ∃ (d : Cur) (s : Stamp), d.ok b ∧ s.wf ∧ RetR Try.prog 60 [.cur (c.e b) (d.e b)] (.vals [.agg s.e]) := by
  obtain ⟨d1, s, o1, ⟨h1, h2⟩, r1⟩ := spec_l02Stamp_ret b c hc
  obtain ⟨d2, k, o2, h3, r2⟩ := spec_l01Below_ret b d1 10 o1 (by omega)
  have w1 : inInt .i64 s.epoch := in64 (by omega) (by omega)
  have w2 : inInt .i64 s.turn := in64 (by omega) (by omega)
  by_cases e0 : k = 0
  · obtain ⟨d3, x, o3, h4, r3⟩ := spec_l01PickInt_ret b d2 [-1, 3, 4, 9223372036854775807] o2 (by simp)
    exact ⟨d3, ⟨x, s.turn⟩, o3, ⟨pick_in h4 (by decide), w2⟩, spec_l02Any_p0 _ _ _ _ _ _ _ _ _ _ _ _ _ ⟨r1, r2, by simp [e0], r3, trivial⟩⟩
  by_cases e1 : k = 1
  · obtain ⟨d3, x, o3, h4, r3⟩ := spec_l01PickInt_ret b d2 [-1, 5, 6, 7, -9223372036854775808] o2 (by simp)
    exact ⟨d3, ⟨s.epoch, x⟩, o3, ⟨w1, pick_in h4 (by decide)⟩, spec_l02Any_p1 _ _ _ _ _ _ _ _ _ _ _ _ _ ⟨r1, r2, by simp [e0], by simp [e1], r3, trivial⟩⟩
  · exact ⟨d2, s, o2, ⟨w1, w2⟩, spec_l02Any_p2 _ _ _ _ _ _ _ _ _ _ ⟨r1, r2, by simp [e0], by simp [e1], trivial⟩⟩

theorem spec_l05Record_ret (b : List Int) (c : Cur) (hc : c.ok b) : ∃ (d : Cur) (r : Record), d.ok b ∧ Fair r ∧ RetR Try.prog 58 [.cur (c.e b) (d.e b)] (.vals [.agg r.e]) := by
  obtain ⟨d1, x, o1, h1, r1⟩ := spec_l01Below_ret b c 5 hc (by omega)
  obtain ⟨d2, s, o2, ⟨h2, h3⟩, r2⟩ := spec_l02Stamp_ret b d1 o1
  obtain ⟨d3, k, o3, h4, r3⟩ := spec_l01Below_ret b d2 12 o2 (by omega)
  obtain ⟨d4, v, o4, h5, r4⟩ := spec_l01Below_ret b d3 40 o3 (by omega)
  exact ⟨d4, ⟨x, s, k, v⟩, o4, ⟨h1, h2, h3, h4, h5⟩, spec_l05Record_p0 _ _ _ _ _ _ _ _ _ _ _ _ _ _ _ _ ⟨r1, r2, r3, r4, trivial⟩⟩

theorem spec_l05Any_ret (b : List Int) (c : Cur) (hc : c.ok b) : ∃ (d : Cur) (r : Record), d.ok b ∧ r.wf ∧ RetR Try.prog 34 [.cur (c.e b) (d.e b)] (.vals [.agg r.e]) := by
  obtain ⟨d1, r, o1, hr, r1⟩ := spec_l05Record_ret b c hc
  obtain ⟨w1, w2, w3, w4⟩ := hr.wf
  obtain ⟨d2, k, o2, h3, r2⟩ := spec_l01Below_ret b d1 12 o1 (by omega)
  by_cases e0 : k = 0
  · obtain ⟨d3, x, o3, h4, r3⟩ := spec_l01PickInt_ret b d2 [-1, 7, 8] o2 (by simp)
    exact ⟨d3, ⟨x, r.stamp, r.key, r.val⟩, o3, ⟨pick_in h4 (by decide), w2, w3, w4⟩, spec_l05Any_p0 _ _ _ _ _ _ _ _ _ _ _ _ _ _ _ _ ⟨r1, r2, by simp [e0], r3, trivial⟩⟩
  by_cases e1 : k = 1
  · obtain ⟨d3, s, o3, h4, r3⟩ := spec_l02Any_ret b d2 o2
    exact ⟨d3, ⟨r.op, s, r.key, r.val⟩, o3, ⟨w1, h4, w3, w4⟩, spec_l05Any_p1 _ _ _ _ _ _ _ _ _ _ _ _ _ _ _ _ _ ⟨r1, r2, by simp [e0], by simp [e1], r3, trivial⟩⟩
  by_cases e2 : k = 2
  · obtain ⟨d3, x, o3, h4, r3⟩ := spec_l01PickInt_ret b d2 [-1, 99, 100, -9223372036854775808] o2 (by simp)
    exact ⟨d3, ⟨r.op, r.stamp, x, r.val⟩, o3, ⟨w1, w2, pick_in h4 (by decide), w4⟩, spec_l05Any_p2 _ _ _ _ _ _ _ _ _ _ _ _ _ _ _ _ ⟨r1, r2, by simp [e0], by simp [e1], by simp [e2], r3, trivial⟩⟩
  by_cases e3 : k = 3
  · obtain ⟨d3, x, o3, h4, r3⟩ := spec_l01PickInt_ret b d2 [-1, 999, 1000, 9223372036854775807] o2 (by simp)
    exact ⟨d3, ⟨r.op, r.stamp, r.key, x⟩, o3, ⟨w1, w2, w3, pick_in h4 (by decide)⟩, spec_l05Any_p3 _ _ _ _ _ _ _ _ _ _ _ _ _ _ _ _ ⟨r1, r2, by simp [e0], by simp [e1], by simp [e2], by simp [e3], r3, trivial⟩⟩
  · exact ⟨d2, r, o2, hr.wf, spec_l05Any_p4 _ _ _ _ _ _ _ _ _ _ _ _ _ ⟨r1, r2, by simp [e0], by simp [e1], by simp [e2], by simp [e3], trivial⟩⟩

theorem flatR (r : Record) : Flat [r.e] := flat_one fun d hd => by
  simp only [Record.e, List.mem_cons, List.not_mem_nil, or_false] at hd
  rcases hd with rfl | rfl | rfl | rfl | rfl <;> exact ⟨_, rfl⟩

theorem flatRs (xs : List Record) : Flat (xs.map Record.e) := flat_map Record.e (fun r d hd => by
  simp only [Record.e, List.mem_cons, List.not_mem_nil, or_false] at hd
  rcases hd with rfl | rfl | rfl | rfl | rfl <;> exact ⟨_, rfl⟩) xs

theorem list_loop (b : List Int) : ∀ (n i : Nat) (xs : List Record) (c : Cur), i + n = 7 → c.ok b → xs.length ≤ i → (∀ r ∈ xs, r.wf) →
    ∃ (ys : List Record) (d : Cur), d.ok b ∧ ys.length ≤ 7 ∧ (∀ r ∈ ys, r.wf) ∧ LoopOk Try.prog (loopOf Try.f31 0) (spec_l05List_L0 (b.map eU) i (xs.map Record.e) c.i c.h) (.exit 0) (spec_l05List_X0 (b.map eU) (ys.map Record.e) d.i d.h)
  | n, i, xs, c, hin, hc, hl, hx => by
    obtain ⟨d1, m, o1, hb, r1⟩ := spec_l01Below_ret b c 7 hc (by omega)
    by_cases h : (i : Int) < m
    · match n with
      | 0 => omega
      | n + 1 =>
        have go : ∀ (r : Record) (d : Cur), r.wf → d.ok b → Tr Try.prog (loopOf Try.f31 0) (spec_l05List_L0 (b.map eU) i (xs.map Record.e) c.i c.h) .normal (spec_l05List_L0 (b.map eU) (i + 1 : Nat) ((xs ++ [r]).map Record.e) d.i d.h) →
            ∃ (ys : List Record) (d : Cur), d.ok b ∧ ys.length ≤ 7 ∧ (∀ r ∈ ys, r.wf) ∧ LoopOk Try.prog (loopOf Try.f31 0) (spec_l05List_L0 (b.map eU) i (xs.map Record.e) c.i c.h) (.exit 0) (spec_l05List_X0 (b.map eU) (ys.map Record.e) d.i d.h) := by
          intro r d hr od tr
          obtain ⟨ys, d, o, y1, y2, l⟩ := list_loop b n (i + 1) (xs ++ [r]) d (by omega) od (by simp; omega) (fun z hz => by
            rcases List.mem_append.1 hz with hz | hz
            · exact hx z hz
            · rw [List.mem_singleton] at hz; subst hz; exact hr)
          exact ⟨ys, d, o, y1, y2, .more tr l⟩
        have z1 : (((xs.map Record.e).length + [(⟨0, ⟨0, 0⟩, 0, 0⟩ : Record).e].length : Nat)) * 40 ≤ 140737488355328 := by simp; omega
        by_cases hne : xs.length = 0
        · obtain ⟨d2, r, o2, hr, r2⟩ := spec_l05Any_ret b d1 o1
          refine go r d2 hr o2 ?_
          rw [List.map_append]
          exact spec_l05List_L0_s2 _ _ _ _ _ _ _ _ _ _ _ _ _ _ _ ⟨r1, decide_eq_true h, by simp [hne], r2, by simp; omega, by simp; omega, flatR r, ⟨by omega, by omega⟩, trivial⟩
        · have hgt : decide ((↑(xs.map Record.e).length : Int) > 0) = true := by simp; omega
          obtain ⟨d2, x, o2, r2⟩ := spec_l01Once_ret b d1 5 o1 (by omega)
          cases x with
          | true =>
            obtain ⟨d3, k, o3, hk, r3⟩ := spec_l01Below_ret b d2 (xs.length : Int) o2 (by omega)
            obtain ⟨r, hr⟩ := get_of (xs := xs) (i := k.toNat) (by omega)
            refine go r d3 (hx r (mem_of hr)) o3 ?_
            rw [List.map_append]
            exact spec_l05List_L0_s0 _ _ _ _ _ _ _ _ _ _ _ _ _ _ _ _ _ _ _ ⟨r1, decide_eq_true h, hgt, r2, rfl, by rw [List.length_map]; exact r3, hk.1, by rw [List.length_map]; exact hk.2, by rw [List.getElem?_map, hr]; rfl, by simp; omega, by simp; omega, flatR r, ⟨by omega, by omega⟩, trivial⟩
          | false =>
            obtain ⟨d3, r, o3, hr, r3⟩ := spec_l05Any_ret b d2 o2
            refine go r d3 hr o3 ?_
            rw [List.map_append]
            exact spec_l05List_L0_s1 _ _ _ _ _ _ _ _ _ _ _ _ _ _ _ _ _ _ ⟨r1, decide_eq_true h, hgt, r2, rfl, r3, by simp; omega, by simp; omega, flatR r, ⟨by omega, by omega⟩, trivial⟩
    · exact ⟨xs, d1, o1, by omega, hx, .last (exit_ne 0) (spec_l05List_L0_x3 _ _ _ _ _ _ _ _ ⟨r1, decide_eq_false h, trivial⟩)⟩

theorem spec_l05List_ret (b : List Int) (c : Cur) (hc : c.ok b) : ∃ (d : Cur) (xs : List Record), d.ok b ∧ xs.length ≤ 7 ∧ (∀ r ∈ xs, r.wf) ∧ RetR Try.prog 31 [.cur (c.e b) (d.e b)] (.vals [.one (.sl 5 (xs.map Record.e))]) := by
  obtain ⟨ys, d, o, y1, y2, l⟩ := list_loop b 7 0 [] c rfl hc (by simp) (by simp)
  exact ⟨d, ys, o, y1, y2, spec_l05List_p0 _ _ _ _ _ _ ⟨l, trivial⟩⟩

theorem spec_DrawWithoutOne_ret (b : List Int) (hb : Bytes b) : ∃ (xs : List Record) (r : Record), xs.length ≤ 7 ∧ (∀ r ∈ xs, r.wf) ∧ r.wf ∧ Ret Try.prog 15 [.one (.sl 1 (b.map eU))] [.one (.sl 5 (xs.map Record.e)), .agg r.e] := by
  obtain ⟨c, hc, r0⟩ := spec_l01New_ret b hb
  obtain ⟨d1, xs, o1, x1, x2, r1⟩ := spec_l05List_ret b c hc
  by_cases hne : xs.length = 0
  · obtain ⟨d2, r, o2, hr, r2⟩ := spec_l05Any_ret b d1 o1
    exact ⟨xs, r, x1, x2, hr, spec_DrawWithoutOne_p2 _ _ _ _ _ _ _ _ _ _ _ _ _ ⟨r0, r1, by simp [hne], r2, trivial⟩⟩
  · have hgt : decide ((↑(xs.map Record.e).length : Int) > 0) = true := by simp; omega
    obtain ⟨d2, x, o2, r2⟩ := spec_l01Once_ret b d1 2 o1 (by omega)
    cases x with
    | true =>
      obtain ⟨d3, k, o3, hk, r3⟩ := spec_l01Below_ret b d2 (xs.length : Int) o2 (by omega)
      obtain ⟨r, hr⟩ := get_of (xs := xs) (i := k.toNat) (by omega)
      exact ⟨xs, r, x1, x2, x2 r (mem_of hr), spec_DrawWithoutOne_p0 _ _ _ _ _ _ _ _ _ _ _ _ _ _ _ _ _ ⟨r0, r1, hgt, r2, rfl, spec_DrawWithoutOne_R4_r2 _ _ _ _ _ _ _ _ _ _ _ _ _ ⟨by rw [List.length_map]; exact r3, hk.1, by rw [List.length_map]; exact hk.2, by rw [List.getElem?_map, hr]; rfl, trivial⟩, trivial⟩⟩
    | false =>
      obtain ⟨d3, r, o3, hr, r3⟩ := spec_l05Any_ret b d2 o2
      exact ⟨xs, r, x1, x2, hr, spec_DrawWithoutOne_p1 _ _ _ _ _ _ _ _ _ _ _ _ _ _ _ _ ⟨r0, r1, hgt, r2, rfl, r3, trivial⟩⟩
end Go.Proofs.Ytenekpkjlgddnaa
