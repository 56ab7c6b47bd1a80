import Derived.Test.YtdchjefneblpgaaGreatR1
set_option linter.unusedVariables false
set_option linter.unusedSimpArgs false
namespace Go.Sx
open Go.RowKit
variable{P:Program}{t:TypeId}{x y:Operand}{k:IntKind}{a:Int}
theorem agl{aB0:IntKind}{n:Nat}:m' P .shr t x y (.int k a) (.int aB0 (n:Int)) (.int k (a.fdiv (2 ^ (min n k.bits)))):=by
 intro w;rw[eqGuard_at_int];simp only[Sem.run_bind,Sem.run_pure,Result.andThen_ok,binOp,Op.shift];rw[bw (by omega),kU];rfl
theorem agm{b:Int}:m' P .xor t x y (.int k a) (.int k b) (.int k (k.wrap ((BitVec.ofInt k.bits a ^^^ BitVec.ofInt k.bits b).toNat:Int))):=by
 intro w;rw[eqGuard_at_int];simp only[Sem.run_bind,Sem.run_pure,Result.andThen_ok,binOp,l6,not_true_eq_false,l7,Op.intBits]
theorem agn{b:Int}:m' P .and t x y (.int k a) (.int k b) (.int k (k.wrap ((BitVec.ofInt k.bits a &&& BitVec.ofInt k.bits b).toNat:Int))):=by
 intro w;rw[eqGuard_at_int];simp only[Sem.run_bind,Sem.run_pure,Result.andThen_ok,binOp,l6,not_true_eq_false,l7,Op.intBits]
theorem ago(a:Int)(m:Nat)(hm:m<2 ^ 62):0<=IntKind.i64.wrap ((BitVec.ofInt IntKind.i64.bits a &&& BitVec.ofInt IntKind.i64.bits (m:Int)).toNat:Int)/\IntKind.i64.wrap ((BitVec.ofInt IntKind.i64.bits a &&& BitVec.ofInt IntKind.i64.bits (m:Int)).toNat:Int)<=m:=by
 have e:(BitVec.ofInt IntKind.i64.bits (m:Int)).toNat=m:=by
  rw[BitVec.toNat_ofInt];have:IntKind.i64.bits=64:=rfl;rw[this];omega
 have h:(BitVec.ofInt IntKind.i64.bits a &&& BitVec.ofInt IntKind.i64.bits (m:Int)).toNat<=m:=by
  rw[BitVec.toNat_and,e];exact Nat.and_le_right
 generalize (BitVec.ofInt IntKind.i64.bits a &&& BitVec.ofInt IntKind.i64.bits (m:Int)).toNat=r at h;have:IntKind.i64.wrap (r:Int)=r:=by
  unfold IntKind.wrap;simp[IntKind.bits,IntKind.signed];omega
 rw[this];omega
