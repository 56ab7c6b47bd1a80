import Derived.Test.YthfnndblgbjniaaGreatDoorP78
import Derived.Test.YthfnndblgbjniaaGreatDoorP79
import Derived.Test.YthfnndblgbjniaaGreatDoorP75
import Derived.Test.YthfnndblgbjniaaGreatDoorP74
import Derived.Test.YthfnndblgbjniaaGreatDoorGI
set_option linter.unusedVariables false
set_option linter.unusedSimpArgs false
namespace Go.Proofs.YthfnndblgbjniaaGreatDoor
open Go.Sx Go.RowKit
theorem arC:kq [⟨2,true⟩]=[50,33]:=by
 have e2:Lib.itoa 2=[50]:=by
  unfold Lib.itoa;rw[bE (by omega)];exact Lib.decDigits_one (i:=2) (by omega)
 unfold kq;rw[lu,List.map_nil,Lib.join_one];unfold piece;rw[bU rfl,e2];rfl
theorem ahD:((fo [50,33]).toList==(ByteArray.mk #[50,33]).toList)=true:=by
 rw[show fo [50,33]=(ByteArray.mk #[50,33]) from rfl];exact rT _
def EB:aR:=⟨[],[],[],[],[],[],[],[⟨2,true⟩]⟩
theorem ahE:mb [.agg [.v (.slice none 0 0),.v (.slice none 0 0),.v (.slice none 0 0),.v (.slice none 0 0),.v (.slice none 0 0),.v (.slice none 0 0),.v (.slice none 0 0),.J 2 [[I 2,B true]]]] [.agg EB.e]:=
 .cons (.agg (.cons (.nil 5) (.cons (.nil 5) (.cons (.nil 5) (.cons (.nil 4) (.cons (.nil 1) (.cons (.nil 1) (.cons (.nil 1) (iY.refl _))))))))) .nil
theorem ahF(b:List Int)(aw:∀a∈b,(fun n=>0<=n/\n<=255) a):ax 3 [.one (.J 1 (b.map gk))] [.one (B true)]:=by
 by_cases Mi:(b.length:Int)>1048576
 ·have:=SY (b.map gk) trivial;rw[j7 (by simpa using Mi)]at this;exact ahZ ⟨this,rfl,ad⟩
 have big:=SY (b.map gk) trivial;rw[ma (by simpa using Mi)]at big;have vE:Bytes b:=⟨by omega,aw⟩
 obtain⟨c,w,⟨gc,ar8⟩,d1⟩:=agP b vE;obtain⟨a,e,⟨ar7,Tf⟩,d2⟩:=agO b vE;obtain⟨y,f,at1,d3⟩:=agM b vE;have at0:(fz c w).1.sz<=c.sz+4:=QQ c ⟨7,w,0⟩;have W2:=ar8;simp only[bb.sz]at W2;have W0:=ar7;simp only[aR.sz]at W0;have U:=abG c w (by omega) gc;have aa:=abF c w (by omega) gc;have aA:=aiq (fz c w).1 (by omega);have je:=agU c w (by omega);have jy:=agT c w (by omega);have la:=SQ (wu c w) (agS (by omega));have c6:=al2 a e (by omega);have b8:=al1 a e (by omega);have e9:=agR y f (by omega);have lQ:=agQ y f (by omega);have t1:=SX a Tf (by omega);have t2:=ahC a Tf (by omega);have t3:=(SX EB (fun d aF=>by
  obtain rfl:=List.mem_singleton.1 aF;exact⟨⟨by decide,by decide⟩⟩) (by decide)).args ahE
 rw[show EB.bx=[⟨2,true⟩] from rfl,arC]at t3;have key:ax 3 [.one (.J 1 (b.map gk))] [.one (B ((fo [50,33]).toList==(ByteArray.mk #[50,33]).toList))]:=by
  cases aj:(fz c w).2 with
  | false=>
   rw[aj,RM aj]at U aa;rw[RM aj]at aA;exact ah0 ⟨big,rfl,d1,U,aa,by simp,aA,rfl,je,jy,la,rfl,d2,c6,b8,d3,by simp,by simp,e9,lQ,by simp,t1,t2,by simp,rfl,aA,rfl,t3,ad⟩
  | true=>
   obtain⟨n,x,a7,au,w0,ao,aF⟩:=heard aj;rw[aj]at U aa;have qS:=aZ a7;have k7:=aZ ao;have is:=C3 x n.bh true aF (bb.Dq (c:=(fz c w).1) (by omega) (ee ao));exact ah1 ⟨big,rfl,d1,U,aa,by simp,aA,rfl,je,jy,la,rfl,d2,c6,b8,d3,by simp,by simp,e9,lQ,by simp,t1,t2,by simp,rfl,jy,by decide,by rw[cr];omega,bp bR.e a7,⟨by rw[cr];omega,by rw[cr];omega⟩,by simp;omega,w0,by rw[cr];omega,bK aR.e ao,is,rfl,t3,ad⟩
 rwa[ahD]at key
