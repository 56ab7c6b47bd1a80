/- Bit operations: there is a result, and a mask's is in its range. -/
import Derived.Test.YtenekpkjlgddnaaR1
set_option linter.unusedVariables false
set_option linter.unusedSimpArgs false
namespace Go.Sx
open Go.RowKit

theorem run_shr {P : Program} {t : TypeId} {x y : Operand} (k yk : IntKind) (a : Int) (n : Nat) : BinRun P .shr t x y (.int k a) (.int yk (n : Int)) (.int k (a.fdiv (2 ^ (min n k.bits)))) := by
  intro w
  rw [eqGuard_at_int]
  simp only [Sem.run_bind, Sem.run_pure, Result.andThen_ok, binOp, Op.shift]
  rw [if_neg (by omega), Int.toNat_natCast]
  rfl
theorem run_xor {P : Program} {t : TypeId} {x y : Operand} (k : IntKind) (a b : Int) : BinRun P .xor t x y (.int k a) (.int k b) (.int k (k.wrap ((BitVec.ofInt k.bits a ^^^ BitVec.ofInt k.bits b).toNat : Int))) := by
  intro w
  rw [eqGuard_at_int]
  simp only [Sem.run_bind, Sem.run_pure, Result.andThen_ok, binOp, ne_eq, not_true_eq_false, if_false, Op.intBits]
theorem run_and {P : Program} {t : TypeId} {x y : Operand} (k : IntKind) (a b : Int) : BinRun P .and t x y (.int k a) (.int k b) (.int k (k.wrap ((BitVec.ofInt k.bits a &&& BitVec.ofInt k.bits b).toNat : Int))) := by
  intro w
  rw [eqGuard_at_int]
  simp only [Sem.run_bind, Sem.run_pure, Result.andThen_ok, binOp, ne_eq, not_true_eq_false, if_false, Op.intBits]

/-- What a mask gives. -/
theorem mask_in (a : Int) (m : Nat) (hm : m < 2 ^ 62) : 0 ≤ IntKind.i64.wrap ((BitVec.ofInt IntKind.i64.bits a &&& BitVec.ofInt IntKind.i64.bits (m : Int)).toNat : Int) ∧ IntKind.i64.wrap ((BitVec.ofInt IntKind.i64.bits a &&& BitVec.ofInt IntKind.i64.bits (m : Int)).toNat : Int) ≤ m := by
  have e : (BitVec.ofInt IntKind.i64.bits (m : Int)).toNat = m := by
    rw [BitVec.toNat_ofInt]
    have : IntKind.i64.bits = 64 := rfl
    rw [this]
    omega
  have h : (BitVec.ofInt IntKind.i64.bits a &&& BitVec.ofInt IntKind.i64.bits (m : Int)).toNat ≤ m := by
    rw [BitVec.toNat_and, e]
    exact Nat.and_le_right
  generalize (BitVec.ofInt IntKind.i64.bits a &&& BitVec.ofInt IntKind.i64.bits (m : Int)).toNat = r at h
  have : IntKind.i64.wrap (r : Int) = r := by
    unfold IntKind.wrap
    simp [IntKind.bits, IntKind.signed]
    omega
  rw [this]
  omega
end Go.Sx
