import Derived.Test.YtamiheofgejehaaG1
set_option linter.unusedVariables false
set_option linter.unusedSimpArgs false
namespace Go.Proofs.Ytamiheofgejehaa
open Go.Sx Go.RowKit

structure Cell where
  op : Int
  epoch : Int
  key : Int
  val : Int
  deriving DecidableEq

def encC (c : Cell) : List D := [I c.op, I c.epoch, I c.key, I c.val]

theorem at_pre {α : Type} (f : α → List D) (pre rest : List α) (a : α) (n : Int) (h : n = pre.length) : ((pre ++ a :: rest).map f)[n.toNat]? = some (f a) := by
  subst h; simp

theorem toCell_ret (c : Cell) : Ret Try.prog 40 [.agg (encC c)] [.agg (encC c)] := f40_p0 _ _ _ _ trivial

theorem eqCell_ret (c d : Cell) : Ret Try.prog 42 [.agg (encC c), .agg (encC d)] [.one (B (decide (c = d)))] := by
  obtain ⟨a1, a2, a3, a4⟩ := c
  obtain ⟨b1, b2, b3, b4⟩ := d
  by_cases h1 : a1 = b1
  · by_cases h2 : a2 = b2
    · by_cases h3 : a3 = b3
      · by_cases h4 : a4 = b4
        · have : decide ((⟨a1, a2, a3, a4⟩ : Cell) = ⟨b1, b2, b3, b4⟩) = true := by simp [h1, h2, h3, h4]
          rw [this]
          exact f42_p4 _ _ _ _ _ _ _ _ ⟨by simp [h1], by simp [h2], by simp [h3], by simp [h4], trivial⟩
        · have : decide ((⟨a1, a2, a3, a4⟩ : Cell) = ⟨b1, b2, b3, b4⟩) = false := by simp [h4]
          rw [this]
          exact f42_p3 _ _ _ _ _ _ _ _ ⟨by simp [h1], by simp [h2], by simp [h3], by simp [h4], trivial⟩
      · have : decide ((⟨a1, a2, a3, a4⟩ : Cell) = ⟨b1, b2, b3, b4⟩) = false := by simp [h3]
        rw [this]
        exact f42_p2 _ _ _ _ _ _ _ _ ⟨by simp [h1], by simp [h2], by simp [h3], trivial⟩
    · have : decide ((⟨a1, a2, a3, a4⟩ : Cell) = ⟨b1, b2, b3, b4⟩) = false := by simp [h2]
      rw [this]
      exact f42_p1 _ _ _ _ _ _ _ _ ⟨by simp [h1], by simp [h2], trivial⟩
  · have : decide ((⟨a1, a2, a3, a4⟩ : Cell) = ⟨b1, b2, b3, b4⟩) = false := by simp [h1]
    rw [this]
    exact f42_p0 _ _ _ _ _ _ _ _ ⟨by simp [h1], trivial⟩

theorem eqCell_ret' (c d : Cell) (r : Bool) (h : decide (c = d) = r) : Ret Try.prog 42 [.agg (encC c), .agg (encC d)] [.one (B r)] := h ▸ eqCell_ret c d

def zC : List D := [I 0, I 0, I 0, I 0]

/-- Going through two lists of one length. -/
theorem loop16 (xs ys : List Cell) (hx : xs.length ≤ 1048576) : ∀ (r1 r2 p1 p2 : List Cell), xs = p1 ++ r1 → ys = p2 ++ r2 → p1.length = p2.length → r1.length = r2.length →
    (r1 = r2 → LoopOk Try.prog (loopOf Try.f16 0) (lp16_0 (xs.map encC) (ys.map encC) p1.length) (.exit 0) lx16_0v2) ∧
    (r1 ≠ r2 → LoopOk Try.prog (loopOf Try.f16 0) (lp16_0 (xs.map encC) (ys.map encC) p1.length) .ret (lx16_0 false))
  | [], [], p1, p2, h1, h2, hp, _ => by
    refine ⟨fun _ => .last (exit_ne 0) (lp16_0_x2 _ _ _ ⟨by simp [h1], trivial⟩), fun h => absurd rfl h⟩
  | a :: r1, b :: r2, p1, p2, h1, h2, hp, hr => by
    have ih := loop16 xs ys hx r1 r2 (p1 ++ [a]) (p2 ++ [b]) (by simp [h1]) (by simp [h2]) (by simp [hp]) (by simpa using hr)
    have e1 : (xs.map encC)[((p1.length : Int)).toNat]? = some (encC a) := by rw [h1]; exact at_pre encC _ _ _ _ rfl
    have e2 : (ys.map encC)[((p1.length : Int)).toNat]? = some (encC b) := by rw [h2]; exact at_pre encC _ _ _ _ (by rw [hp])
    have l1 : p1.length < xs.length := by simp [h1]
    have l2 : p1.length < ys.length := by simp [h2, hp]
    have step : ((p1 ++ [a]).length : Int) = (p1.length : Int) + 1 := by simp
    rw [step] at ih
    by_cases hab : a = b
    · subst hab
      have t := lp16_0_s1 (xs.map encC) (ys.map encC) p1.length _ _ _ _ _ _ _ _ true ⟨by simp; omega, by omega, by simp; omega, e1, by omega, by simp; omega, e2, eqCell_ret' a a true (by simp), rfl, ⟨by omega, by omega⟩, trivial⟩
      exact ⟨fun h => .more t (ih.1 (by simpa using h)), fun h => .more t (ih.2 (by simpa using h))⟩
    · have t := lp16_0_x0 (xs.map encC) (ys.map encC) p1.length _ _ _ _ _ _ _ _ false ⟨by simp; omega, by omega, by simp; omega, e1, by omega, by simp; omega, e2, eqCell_ret' a b false (by simp [hab]), rfl, trivial⟩
      exact ⟨fun h => absurd (by simp at h; exact h.1) hab, fun _ => .last ret_ne t⟩
  | [], b :: r2, _, _, _, _, _, h => by simp at h
  | a :: r1, [], _, _, _, _, _, h => by simp at h

theorem eqCellS_ret (xs ys : List Cell) (hx : xs.length ≤ 1048576) (hy : ys.length ≤ 1048576) : Ret Try.prog 16 [.one (.sl 4 (xs.map encC)), .one (.sl 4 (ys.map encC))] [.one (B (decide (xs = ys)))] := by
  by_cases hl : xs.length = ys.length
  · have h := loop16 xs ys hx xs ys [] [] rfl rfl rfl hl
    by_cases he : xs = ys
    · rw [decide_eq_true he]
      exact f16_p2 _ _ ⟨by simp [hl], h.1 he, trivial⟩
    · rw [decide_eq_false he]
      exact f16_p1 _ _ false ⟨by simp [hl], h.2 he, trivial⟩
  · rw [decide_eq_false (fun e => hl (by rw [e]))]
    exact f16_p0 _ _ ⟨by simp; omega, trivial⟩

theorem cell_eq (a b : Cell) : (a.op == b.op && (a.epoch == b.epoch && (a.key == b.key && a.val == b.val))) = decide (a = b) := by
  obtain ⟨a1, a2, a3, a4⟩ := a
  obtain ⟨b1, b2, b3, b4⟩ := b
  rw [Bool.eq_iff_iff]
  simp

theorem loop39 (xs ys : List Cell) (hx : xs.length ≤ 1048576) : ∀ (r1 r2 p1 p2 : List Cell), xs = p1 ++ r1 → ys = p2 ++ r2 → p1.length = p2.length → r1.length = r2.length →
    (r1 = r2 → LoopOk Try.prog (loopOf Try.f39 0) (lp39_0 (xs.map encC) (ys.map encC) p1.length) (.exit 0) lx39_0v2) ∧
    (r1 ≠ r2 → LoopOk Try.prog (loopOf Try.f39 0) (lp39_0 (xs.map encC) (ys.map encC) p1.length) .ret (lx39_0 false))
  | [], [], p1, p2, h1, h2, hp, _ => by
    refine ⟨fun _ => .last (exit_ne 0) (lp39_0_x2 _ _ _ ⟨by simp [h1], trivial⟩), fun h => absurd rfl h⟩
  | a :: r1, b :: r2, p1, p2, h1, h2, hp, hr => by
    have ih := loop39 xs ys hx r1 r2 (p1 ++ [a]) (p2 ++ [b]) (by simp [h1]) (by simp [h2]) (by simp [hp]) (by simpa using hr)
    have e1 : (xs.map encC)[((p1.length : Int)).toNat]? = some (encC a) := by rw [h1]; exact at_pre encC _ _ _ _ rfl
    have e2 : (ys.map encC)[((p1.length : Int)).toNat]? = some (encC b) := by rw [h2]; exact at_pre encC _ _ _ _ (by rw [hp])
    have l1 : p1.length < xs.length := by simp [h1]
    have l2 : p1.length < ys.length := by simp [h2, hp]
    have step : ((p1 ++ [a]).length : Int) = (p1.length : Int) + 1 := by simp
    rw [step] at ih
    by_cases hab : a = b
    · have t := lp39_0_s1 (xs.map encC) (ys.map encC) p1.length _ _ _ _ _ _ _ _ ⟨by simp; omega, by omega, by simp; omega, e1, by omega, by simp; omega, e2, by rw [cell_eq]; simp [hab], ⟨by omega, by omega⟩, trivial⟩
      subst hab
      exact ⟨fun h => .more t (ih.1 (by simpa using h)), fun h => .more t (ih.2 (by simpa using h))⟩
    · have t := lp39_0_x0 (xs.map encC) (ys.map encC) p1.length _ _ _ _ _ _ _ _ ⟨by simp; omega, by omega, by simp; omega, e1, by omega, by simp; omega, e2, by rw [cell_eq]; simp [hab], trivial⟩
      exact ⟨fun h => absurd (by simp at h; exact h.1) hab, fun _ => .last ret_ne t⟩
  | [], b :: r2, _, _, _, _, _, h => by simp at h
  | a :: r1, [], _, _, _, _, _, h => by simp at h

theorem same_ret (xs ys : List Cell) (hx : xs.length ≤ 1048576) : Ret Try.prog 39 [.one (.sl 4 (xs.map encC)), .one (.sl 4 (ys.map encC))] [.one (B (decide (xs = ys)))] := by
  by_cases hl : xs.length = ys.length
  · have h := loop39 xs ys hx xs ys [] [] rfl rfl rfl hl
    by_cases he : xs = ys
    · rw [decide_eq_true he]
      exact f39_p2 _ _ ⟨by simp [hl], h.1 he, trivial⟩
    · rw [decide_eq_false he]
      exact f39_p1 _ _ false ⟨by simp [hl], h.2 he, trivial⟩
  · rw [decide_eq_false (fun e => hl (by rw [e]))]
    exact f39_p0 _ _ ⟨by simp; omega, trivial⟩

theorem loop41 (xs ys : List Cell) (hx : xs.length ≤ 1048576) : ∀ (r1 r2 p1 p2 : List Cell), xs = p1 ++ r1 → ys = p2 ++ r2 → p1.length = p2.length → r1.length = r2.length →
    (r1 = r2 → LoopOk Try.prog (loopOf Try.f41 0) (lp41_0 (xs.map encC) (ys.map encC) p1.length) (.exit 0) lx41_0v2) ∧
    (r1 ≠ r2 → LoopOk Try.prog (loopOf Try.f41 0) (lp41_0 (xs.map encC) (ys.map encC) p1.length) .ret (lx41_0 false))
  | [], [], p1, p2, h1, h2, hp, _ => by
    refine ⟨fun _ => .last (exit_ne 0) (lp41_0_x2 _ _ _ ⟨by simp [h1], trivial⟩), fun h => absurd rfl h⟩
  | a :: r1, b :: r2, p1, p2, h1, h2, hp, hr => by
    have ih := loop41 xs ys hx r1 r2 (p1 ++ [a]) (p2 ++ [b]) (by simp [h1]) (by simp [h2]) (by simp [hp]) (by simpa using hr)
    have e1 : (xs.map encC)[((p1.length : Int)).toNat]? = some (encC a) := by rw [h1]; exact at_pre encC _ _ _ _ rfl
    have e2 : (ys.map encC)[((p1.length : Int)).toNat]? = some (encC b) := by rw [h2]; exact at_pre encC _ _ _ _ (by rw [hp])
    have l1 : p1.length < xs.length := by simp [h1]
    have l2 : p1.length < ys.length := by simp [h2, hp]
    have step : ((p1 ++ [a]).length : Int) = (p1.length : Int) + 1 := by simp
    rw [step] at ih
    by_cases hab : a = b
    · have t := lp41_0_s1 (xs.map encC) (ys.map encC) p1.length _ _ _ _ _ _ _ _ ⟨by simp; omega, by omega, by simp; omega, e1, by omega, by simp; omega, e2, by rw [cell_eq]; simp [hab], ⟨by omega, by omega⟩, trivial⟩
      subst hab
      exact ⟨fun h => .more t (ih.1 (by simpa using h)), fun h => .more t (ih.2 (by simpa using h))⟩
    · have t := lp41_0_x0 (xs.map encC) (ys.map encC) p1.length _ _ _ _ _ _ _ _ ⟨by simp; omega, by omega, by simp; omega, e1, by omega, by simp; omega, e2, by rw [cell_eq]; simp [hab], trivial⟩
      exact ⟨fun h => absurd (by simp at h; exact h.1) hab, fun _ => .last ret_ne t⟩
  | [], b :: r2, _, _, _, _, _, h => by simp at h
  | a :: r1, [], _, _, _, _, _, h => by simp at h

theorem equal_ret (xs ys : List Cell) (hx : xs.length ≤ 1048576) : Ret Try.prog 41 [.one (.sl 4 (xs.map encC)), .one (.sl 4 (ys.map encC))] [.one (B (decide (xs = ys)))] := by
  by_cases hl : xs.length = ys.length
  · have h := loop41 xs ys hx xs ys [] [] rfl rfl rfl hl
    by_cases he : xs = ys
    · rw [decide_eq_true he]
      exact f41_p2 _ _ ⟨by simp [hl], h.1 he, trivial⟩
    · rw [decide_eq_false he]
      exact f41_p1 _ _ false ⟨by simp [hl], h.2 he, trivial⟩
  · rw [decide_eq_false (fun e => hl (by rw [e]))]
    exact f41_p0 _ _ ⟨by simp; omega, trivial⟩

/-- A copy, one element after the other: what is written, and what is not yet. -/
theorem loop14 (xs : List Cell) (hx : xs.length ≤ 1048576) : ∀ (r p : List Cell), xs = p ++ r →
    LoopOk Try.prog (loopOf Try.f14 0) (lp14_0 (xs.map encC) p.length (p.map encC ++ List.replicate r.length zC)) (.exit 0) (lx14_0 (xs.map encC))
  | [], p, h => by
    have : xs.map encC = p.map encC ++ List.replicate ([] : List Cell).length zC := by simp [h]
    rw [← this]
    exact .last (exit_ne 0) (lp14_0_x1 _ _ _ ⟨by simp [h], trivial⟩)
  | a :: r, p, h => by
    have ih := loop14 xs hx r (p ++ [a]) (by simp [h])
    have e1 : (xs.map encC)[((p.length : Int)).toNat]? = some (encC a) := by rw [h]; exact at_pre encC _ _ _ _ rfl
    have l1 : p.length < xs.length := by simp [h]
    have step : ((p ++ [a]).length : Int) = (p.length : Int) + 1 := by simp
    rw [step] at ih
    refine .more (lp14_0_s0 (xs.map encC) p.length _ _ _ _ _ _ _ _ _ 0 0 0 0 ⟨by simp; omega, by omega, by simp; omega, e1, toCell_ret a, by omega, by simp; omega, ?_, ⟨by omega, by omega⟩, trivial⟩) ?_
    · simp [zC]
    · have : (p.map encC ++ List.replicate (a :: r).length zC).set ((p.length : Int)).toNat (encC a) = (p ++ [a]).map encC ++ List.replicate r.length zC := by
        simp [List.replicate_succ, List.set_append]
      exact this ▸ ih

theorem toCellS_ret (xs : List Cell) (hx : xs.length ≤ 1048576) : Ret Try.prog 14 [.one (.sl 4 (xs.map encC))] [.one (.sl 4 (xs.map encC))] := by
  have h := loop14 xs hx xs [] rfl
  exact f14_p0 _ _ ⟨by omega, by omega, by simp; omega, by simp; omega, by simpa [zC] using h, trivial⟩

theorem szCellS_neg (es : List (List D)) (n : Int) (h0 : 0 ≤ n) (h1 : n ≤ 1048576) (hl : (es.length : Int) ≤ 9223372036854775807) (h : n < es.length) : Ret Try.prog 12 [.one (.sl 4 es), .one (I n)] [.one (I (-1))] :=
  f12_p0 _ _ ⟨⟨by omega, by omega⟩, by simp; omega, trivial⟩

theorem szCellS_ok (es : List (List D)) (n : Int) (h1 : n ≤ 1048576) (h : es.length ≤ n) : Ret Try.prog 12 [.one (.sl 4 es), .one (I n)] [.one (I (n - es.length))] :=
  f12_p1 _ _ ⟨⟨by omega, by omega⟩, by simp; omega, trivial⟩

theorem law4 (xs ys : List Cell) (hx : (xs.length : Int) ≤ 9223372036854775807) (hy : (ys.length : Int) ≤ 9223372036854775807) : Ret Try.prog 4 [.one (.sl 4 (xs.map encC)), .one (.sl 4 (ys.map encC))] [.one (B true)] := by
  by_cases h1 : xs.length ≤ 1048576
  · have s1 := szCellS_ok (xs.map encC) 1048576 (by omega) (by simp; omega)
    by_cases h2 : (ys.length : Int) ≤ 1048576 - xs.length
    · have s2 := szCellS_ok (ys.map encC) _ (show 1048576 - ((xs.map encC).length : Int) ≤ 1048576 by omega) (by simp; omega)
      have c1 := toCellS_ret xs h1
      have c2 := toCellS_ret ys (by omega)
      exact f4_p5 _ _ _ _ _ _ (decide (xs = ys)) _ _ (decide (xs = ys)) _ true _ true
        ⟨s1, by simp; omega, s2, by simp; omega, c1, c2, f13_p0 _ _ _ ⟨same_ret xs ys h1, trivial⟩, c1, c2, f15_p0 _ _ _ ⟨equal_ret xs ys h1, trivial⟩, by simp, c1, by simpa using eqCellS_ret xs xs h1 h1, rfl, c2,
          by simpa using eqCellS_ret ys ys (by omega) (by omega), rfl, trivial⟩
    · exact f4_p1 _ _ _ (-1) ⟨s1, by simp; omega, szCellS_neg _ _ (by simp; omega) (by simp; omega) (by simpa using hy) (by simp; omega), rfl, trivial⟩
  · exact f4_p0 _ _ (-1) ⟨szCellS_neg _ _ (by omega) (by omega) (by simpa using hx) (by simp; omega), rfl, trivial⟩

end Go.Proofs.Ytamiheofgejehaa
