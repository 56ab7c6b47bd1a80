import Derived.Test.YthfnndblgbjniaaGreatDoorR1
set_option linter.unusedVariables false
set_option linter.unusedSimpArgs false
namespace Go.Sx
open Go.RowKit
variable{P:Program}{t:TypeId}{x y:Operand}{k:IntKind}{a:Int}
theorem ajy{ar5:IntKind}{n:Nat}:gF P .shr t x y (.int k a) (.int ar5 (n:Int)) (.int k (a.fdiv (2 ^ (min n k.bits)))):=by
 intro w;rw[eqGuard_at_int];simp only[Sem.run_bind,Sem.run_pure,Result.andThen_ok,binOp,Op.shift];rw[bE (by omega),po];rfl
theorem ajz{b:Int}:gF P .xor t x y (.int k a) (.int k b) (.int k (k.wrap ((BitVec.ofInt k.bits a ^^^ BitVec.ofInt k.bits b).toNat:Int))):=by
 intro w;rw[eqGuard_at_int];simp only[Sem.run_bind,Sem.run_pure,Result.andThen_ok,binOp,l',not_true_eq_false,mY,Op.intBits]
theorem ajA{b:Int}:gF P .and t x y (.int k a) (.int k b) (.int k (k.wrap ((BitVec.ofInt k.bits a &&& BitVec.ofInt k.bits b).toNat:Int))):=by
 intro w;rw[eqGuard_at_int];simp only[Sem.run_bind,Sem.run_pure,Result.andThen_ok,binOp,l',not_true_eq_false,mY,Op.intBits]
theorem ajB(a:Int)(m:Nat)(hm:m<2 ^ 62):0<=IntKind.i64.wrap ((BitVec.ofInt IntKind.i64.bits a &&& BitVec.ofInt IntKind.i64.bits (m:Int)).toNat:Int)/\IntKind.i64.wrap ((BitVec.ofInt IntKind.i64.bits a &&& BitVec.ofInt IntKind.i64.bits (m:Int)).toNat:Int)<=m:=by
 have e:(BitVec.ofInt IntKind.i64.bits (m:Int)).toNat=m:=by
  rw[BitVec.toNat_ofInt];have:IntKind.i64.bits=64:=rfl;rw[this];omega
 have h:(BitVec.ofInt IntKind.i64.bits a &&& BitVec.ofInt IntKind.i64.bits (m:Int)).toNat<=m:=by
  rw[BitVec.toNat_and,e];exact Nat.and_le_right
 generalize (BitVec.ofInt IntKind.i64.bits a &&& BitVec.ofInt IntKind.i64.bits (m:Int)).toNat=r at h;have:IntKind.i64.wrap (r:Int)=r:=by
  unfold IntKind.wrap;simp[IntKind.bits,IntKind.signed];omega
 rw[this];omega
