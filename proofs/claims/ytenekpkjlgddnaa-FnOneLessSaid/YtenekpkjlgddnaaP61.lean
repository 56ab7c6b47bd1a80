/- The drawers' cursor: whatever is drawn, there is a cursor behind it and a number in range. -/
import Derived.Test.YtenekpkjlgddnaaB0
import Derived.Test.YtenekpkjlgddnaaT5
import Derived.Test.YtenekpkjlgddnaaR35
import Derived.Test.YtenekpkjlgddnaaGD
set_option linter.unusedVariables false
set_option linter.unusedSimpArgs false
namespace Go.Proofs.Ytenekpkjlgddnaa
open Go.Sx Go.RowKit

def eU (n : Int) : List D := [.v (.int .u8 n)]
structure Cur where
  i : Int
  h : Int
/-- The cursor over these bytes. -/
def Cur.e (b : List Int) (c : Cur) : List D := [.sl 1 (b.map eU), I c.i, I c.h]
def Bytes (b : List Int) : Prop := b.length ≤ 8388608 ∧ ∀ x ∈ b, 0 ≤ x ∧ x ≤ 255
/-- A cursor within its bytes. -/
def Cur.ok (b : List Int) (c : Cur) : Prop := Bytes b ∧ 0 ≤ c.i ∧ c.i ≤ b.length

theorem u8_of {P : Program} {t : TypeId} {ds : List D} (hu : P.underlying t = some (.int .u8)) (h : ShD P t ds) : ∃ n, ds = eU n ∧ 0 ≤ n ∧ n ≤ 255 := by
  have h2 : ∃ n, ds = [.v (.int .u8 n)] ∧ (Lit.int .u8 n).wf = true := by cases h <;> simp_all
  obtain ⟨n, e, hw⟩ := h2
  refine ⟨n, e, ?_⟩
  simp [Lit.wf] at hw
  have h3 : IntKind.u8.min = 0 := rfl
  rw [h3] at hw
  exact hw

theorem cells_u8 : Try.prog.cellsOf 5 = 1 := by kernel_rfl

theorem bytes_of {ds : List D} (h : ShD Try.prog 38 ds) : ∃ xs : List Int, ds = [.sl 1 (xs.map eU)] ∧ (xs.length : Int) ≤ 9223372036854775807 ∧ ∀ a ∈ xs, (fun n => 0 ≤ n ∧ n ≤ 255) a :=
  list_of eU (fun n => 0 ≤ n ∧ n ≤ 255) Try.underlying38 cells_u8 (fun ds h => u8_of Try.underlying5 h) h

theorem bytes_arg {ad : AD} (h : ShA Try.prog 38 ad) : ∃ xs : List Int, ad = .one (.sl 1 (xs.map eU)) ∧ (xs.length : Int) ≤ 9223372036854775807 ∧ ∀ a ∈ xs, (fun n => 0 ≤ n ∧ n ≤ 255) a := by
  cases ad with
  | agg ds => have := h.2; simp [aggT, Try.underlying38] at this
  | one d =>
    obtain ⟨x, e, hx⟩ := bytes_of h.1
    obtain rfl := (List.cons.inj e).1
    exact ⟨x, rfl, hx⟩

theorem shr_ex {P : Program} (a : Int) (n : Nat) : ∃ m : Int, ∀ t x y, BinRun P .shr t x y (.int .i64 a) (.int .u64 (n : Int)) (.int .i64 m) := ⟨_, fun _ _ _ => run_shr _ _ _ _⟩
theorem xor_ex {P : Program} (a b : Int) : ∃ m : Int, ∀ t x y, BinRun P .xor t x y (.int .i64 a) (.int .i64 b) (.int .i64 m) := ⟨_, fun _ _ _ => run_xor _ _ _⟩
theorem mask_ex {P : Program} (a : Int) (k : Nat) (hk : k < 2 ^ 62) : ∃ m : Int, (0 ≤ m ∧ m ≤ k) ∧ ∀ t x y, BinRun P .and t x y (.int .i64 a) (.int .i64 (k : Int)) (.int .i64 m) := ⟨_, mask_in a k hk, fun _ _ _ => run_and _ _ _⟩

theorem new_loop (b : List Int) (hb : Bytes b) : ∀ (n i : Nat) (h : Int), i + n = b.length → 0 ≤ h ∧ h ≤ 1073741823 → ∃ h', LoopOk Try.prog (loopOf Try.f30 0) (spec_l01New_L0 (b.map eU) i h) (.exit 0) (spec_l01New_X0 (b.map eU) h')
  | 0, i, h, hi, hh => ⟨h, .last (exit_ne 0) (spec_l01New_L0_x2 _ _ _ ⟨by rw [decide_eq_false_iff_not, List.length_map]; omega, trivial⟩)⟩
  | n + 1, i, h, hi, hh => by
    have hl := hb.1
    obtain ⟨x, hx⟩ := get_of (xs := b) (i := i) (by omega)
    have hb := hb.2 x (mem_of hx)
    by_cases h4 : (i : Int) < 4000
    · obtain ⟨m, hm, r⟩ := mask_ex (P := Try.prog) (h * 131 + x + 7) 1073741823 (by decide)
      obtain ⟨h', l⟩ := new_loop b ‹Bytes b› n (i + 1) m (by omega) hm
      exact ⟨h', .more (spec_l01New_L0_s0 _ _ _ _ _ ⟨lt1 (by omega), decide_eq_true h4, ⟨by omega, by omega⟩, lt0, lt2 (by omega), at_map eU hx, ⟨by omega, by omega⟩, ⟨by omega, by omega⟩, ⟨by omega, by omega⟩, r _ _ _, ⟨by omega, by omega⟩, trivial⟩) l⟩
    · exact ⟨h, .last (exit_ne 0) (spec_l01New_L0_x1 _ _ _ ⟨lt1 (by omega), decide_eq_false h4, trivial⟩)⟩

theorem spec_l01New_ret (b : List Int) (hb : Bytes b) : ∃ c : Cur, c.ok b ∧ RetR Try.prog 30 [.ro (.one (.sl 1 (b.map eU)))] (.newp [some 0, none, none] (c.e b)) := by
  have hl := hb.1
  obtain ⟨h', l⟩ := new_loop b hb b.length 0 (94701 + (↑(b.map eU).length : Int)) (by omega) ⟨by omega, by simp; omega⟩
  exact ⟨⟨0, h'⟩, ⟨hb, by dsimp only; omega, by dsimp only; omega⟩, spec_l01New_p0 _ _ ⟨⟨by omega, by simp; omega⟩, l, trivial⟩⟩

theorem spec_l01Byte_ret (b : List Int) (c : Cur) (hc : c.ok b) : ∃ (d : Cur) (n : Int), d.ok b ∧ (0 ≤ n ∧ n ≤ 255) ∧ RetR Try.prog 57 [.cur (c.e b) (d.e b)] (.vals [.one (I n)]) := by
  obtain ⟨⟨h1, h2⟩, h3, h4⟩ := hc
  obtain ⟨n3, r3⟩ := shr_ex (P := Try.prog) (IntKind.i64.wrap (IntKind.i64.wrap (c.h * 6364136223846793005) + 1442695040888963407)) 33
  obtain ⟨n4, r4⟩ := shr_ex (P := Try.prog) (IntKind.i64.wrap (IntKind.i64.wrap (c.h * 6364136223846793005) + 1442695040888963407)) 45
  obtain ⟨n5, r5⟩ := xor_ex (P := Try.prog) n3 n4
  obtain ⟨n6, m6, r6⟩ := mask_ex (P := Try.prog) n5 255 (by decide)
  by_cases hi : c.i < b.length
  · obtain ⟨x, hx⟩ := get_of (xs := b) (i := c.i.toNat) (by omega)
    have hb := h2 x (mem_of hx)
    obtain ⟨n8, m8, r8⟩ := mask_ex (P := Try.prog) (IntKind.i64.wrap (n6 + IntKind.i64.wrap x)) 255 (by decide)
    exact ⟨⟨c.i + 1, IntKind.i64.wrap (IntKind.i64.wrap (c.h * 6364136223846793005) + 1442695040888963407)⟩, n8, ⟨⟨h1, h2⟩, by dsimp only; omega, by dsimp only; omega⟩, m8, spec_l01Byte_p0 _ _ _ _ _ _ _ _ _ ⟨r3 _ _ _, r4 _ _ _, r5 _ _ _, r6 _ _ _, by rw [decide_eq_true_eq, List.length_map]; exact hi, h3, by rw [List.length_map]; exact hi, by rw [List.getElem?_map, hx]; rfl, r8 _ _ _, ⟨by omega, by omega⟩, trivial⟩⟩
  · exact ⟨⟨c.i, IntKind.i64.wrap (IntKind.i64.wrap (c.h * 6364136223846793005) + 1442695040888963407)⟩, n6, ⟨⟨h1, h2⟩, h3, h4⟩, m6, spec_l01Byte_p1 _ _ _ _ _ _ _ ⟨r3 _ _ _, r4 _ _ _, r5 _ _ _, r6 _ _ _, by rw [decide_eq_false_iff_not, List.length_map]; exact hi, trivial⟩⟩

theorem spec_l01Below_ret (b : List Int) (c : Cur) (k : Int) (hc : c.ok b) (hk : 1 ≤ k ∧ k ≤ 1000000) : ∃ (d : Cur) (n : Int), d.ok b ∧ (0 ≤ n ∧ n < k) ∧ RetR Try.prog 33 [.cur (c.e b) (d.e b), .ro (.one (I k))] (.vals [.one (I n)]) := by
  have md : ∀ m : Int, 0 ≤ m → 0 ≤ m.tmod k ∧ m.tmod k < k := fun m hm => ⟨Int.tmod_nonneg _ hm, Int.tmod_lt_of_pos m (by omega)⟩
  obtain ⟨d1, n1, o1, b1, r1⟩ := spec_l01Byte_ret b c hc
  by_cases h : k ≤ 256
  · exact ⟨d1, _, o1, md n1 b1.1, spec_l01Below_p1 _ _ _ _ _ _ _ ⟨decide_eq_false (by omega), decide_eq_true h, r1, by omega, trivial⟩⟩
  · obtain ⟨d2, n2, o2, b2, r2⟩ := spec_l01Byte_ret b d1 o1
    obtain ⟨d3, n3, o3, b3, r3⟩ := spec_l01Byte_ret b d2 o2
    obtain ⟨d4, n4, o4, b4, r4⟩ := spec_l01Byte_ret b d3 o3
    exact ⟨d4, _, o4, md _ (by omega), spec_l01Below_p2 _ _ _ _ _ _ _ _ _ _ _ _ _ _ _ _ ⟨decide_eq_false (by omega), decide_eq_false h, r1, r2, r3, r4, ⟨by omega, by omega⟩, ⟨by omega, by omega⟩, ⟨by omega, by omega⟩, ⟨by omega, by omega⟩, ⟨by omega, by omega⟩, ⟨by omega, by omega⟩, by omega, trivial⟩⟩

theorem spec_l01Once_ret (b : List Int) (c : Cur) (k : Int) (hc : c.ok b) (hk : 1 ≤ k ∧ k ≤ 1000000) : ∃ (d : Cur) (x : Bool), d.ok b ∧ RetR Try.prog 32 [.cur (c.e b) (d.e b), .ro (.one (I k))] (.vals [.one (B x)]) := by
  obtain ⟨d, n, o, _, r⟩ := spec_l01Below_ret b c k hc hk
  exact ⟨d, _, o, spec_l01Once_p0 _ _ _ _ _ _ _ ⟨r, trivial⟩⟩

theorem spec_l01PickInt_ret (b : List Int) (c : Cur) (xs : List Int) (hc : c.ok b) (hk : 1 ≤ xs.length ∧ xs.length ≤ 1000) : ∃ (d : Cur) (n : Int), d.ok b ∧ n ∈ xs ∧ RetR Try.prog 59 [.cur (c.e b) (d.e b), .ro (.one (.sl 1 (xs.map eI)))] (.vals [.one (I n)]) := by
  obtain ⟨d, n, o, hb, r⟩ := spec_l01Below_ret b c (xs.length : Int) hc (by omega)
  obtain ⟨x, hx⟩ := get_of (xs := xs) (i := n.toNat) (by omega)
  refine ⟨d, x, o, mem_of hx, spec_l01PickInt_p0 _ _ _ _ _ _ _ _ ⟨?_, hb.1, by rw [List.length_map]; exact hb.2, by rw [List.getElem?_map, hx]; rfl, trivial⟩⟩
  rw [List.length_map]
  exact r

end Go.Proofs.Ytenekpkjlgddnaa
