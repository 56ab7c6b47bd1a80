/- slices.DeleteFunc, Recall, StepOp: what program and reference compute (cases put together by gentree.py). -/
import Derived.Test.YtdkobdhckkjmeaaGreatP16
import Derived.Test.YtdkobdhckkjmeaaGreatC0
import Derived.Test.YtdkobdhckkjmeaaGreatGS
set_option linter.unusedVariables false
set_option linter.unusedSimpArgs false
namespace Go.Proofs.YtdkobdhckkjmeaaGreat
open Go.Sx Go.RowKit Go.Proofs.Tryz
theorem qHX{P:Program}{f:Nat}{args:List GA}{k:Nat}{l l':List (List D)}(h:RetG P f args [.one (.sl k l)])(hl:l=l'):RetG P f args [.one (.sl k l')]:=hl▸h
theorem qmV(xs:List Cell)(p:Cell→Bool)(g:Nat)(caps:List D)(hl:xs.length≤8388608)(hc:qaT prog g=true)(hp:∀x∈xs,∀r,p x=r→Rt g ([.agg x.e]++caps.map .one) [.one (B r)]):
  ∀(n i:Nat) (ys:List Cell),n+i=xs.length→ys.length=xs.length→ys.drop i=xs.drop i→ys.take ((xs.take i).filter fun a=>!p a).length=(xs.take i).filter (fun a=>!p a)→
  ∃zs:List Cell,qam prog (qaa f328 0) (qef g caps i ((xs.take i).filter fun a=>!p a).length (ys.map Cell.e)) (.exit 0) (qmh (zs.map Cell.e) (xs.filter fun a=>!p a).length)∧zs.length=xs.length∧zs.take (xs.filter fun a=>!p a).length=xs.filter (fun a=>!p a)
 | 0,i,ys,hi,hy,_,ht=>by
  have e:xs.take i=xs:=zbk (by omega);rw[e]at ht ⊢;exact⟨ys,.last (qaf 0) (qx6 _ _ _ _ _ ⟨dF (by simp;omega),trivial⟩),hy,ht⟩
 | n+1,i,ys,hi,hy,hd,ht=>by
  obtain⟨a,ha⟩:=qal (xs:=xs) (i:=i) (by omega);have hya:ys[i]?=some a:=by
   have e1:ys[i]?=(ys.drop i)[0]?:=by simp
   have e2:xs[i]?=(xs.drop i)[0]?:=by simp
   rw[e1,hd,←e2,ha]
  have hf:=qeY (fun a=>!p a) ha;have hle:=qjs (fun a=>!p a) xs i;have hdn:ys.drop (i+1)=xs.drop (i+1):=by
   have:=congrArg (List.drop 1) hd;simpa[List.drop_drop,Nat.add_comm]using this
  cases h:p a with
  | true=>
   rw[h]at hf;simp only[zZ,zao,zci,zaa]at hf;obtain⟨zs,h1,h2,h3⟩:=qmV xs p g caps hl hc hp n (i+1) ys (by omega) hy hdn (by rw[hf];exact ht);rw[hf]at h1;exact⟨zs,.more (qx5 _ _ _ _ _ _ _ _ _ _ ⟨dT (by simp;omega),lt0,by simp;omega,qac Cell.e hya,hc,hp a (qag ha) true h,rfl,⟨by omega,by omega⟩,trivial⟩) h1,h2,h3⟩
  | false=>
   rw[h]at hf;simp only[zbc,zbb]at hf;generalize hj:((xs.take i).filter fun a=>!p a).length=j at*;obtain⟨b,hb⟩:=qal (xs:=ys) (i:=j) (by omega);obtain⟨zs,h1,h2,h3⟩:=qmV xs p g caps hl hc hp n (i+1) (ys.set j a) (by omega) (by simpa using hy) (by rw[List.drop_set_of_lt (by omega)];exact hdn) (by
    rw[hf,zab,hj,List.length_singleton,List.take_set,←ht];have hjl:j<ys.length:=by omega
    rw[List.take_succ_eq_append_getElem hjl,List.set_append_right _ _ (by simp;omega)];simp[zay,Nat.min_eq_left (Nat.le_of_lt hjl)])
   rw[hf,zab,hj,List.length_singleton]at h1;refine⟨zs,.more (tr_to (fun l=>qef g caps ((i+1:Nat):Int) ((j+1:Nat):Int) l) (qx4 _ _ _ _ _ _ _ _ _ _ _ _ _ _ ⟨dT (by simp;omega),lt0,by simp;omega,qac Cell.e hya,hc,hp a (qag ha) false h,rfl,lt0,by simp;omega,qac Cell.e hb,⟨by omega,by omega⟩,⟨by omega,by omega⟩,trivial⟩) ?_) h1,h2,h3⟩;show List.set _ _ a.e=_;rw[zae,←zau]
theorem qHY(xs:List Cell)(p:Cell→Bool)(g:Nat)(caps:List D)(hl:xs.length≤8388608)(hc:qaT prog g=true)(hp:∀x∈xs,Rt g ([.agg x.e]++caps.map .one) [.one (B (p x))]):
  RetG prog 328 [.one (.gv 4 (xs.map Cell.e) none),.one (.ro (.cl g caps))] [.one (.sl 4 ((xs.filter fun a=>!p a).map Cell.e))]:=by
 have hp':∀x∈xs,∀r,p x=r→Rt g ([.agg x.e]++caps.map .one) [.one (B r)]:=fun x hx r h=>h▸hp x hx
 have ix:=qzu xs p g caps hl hc hp;unfold idxI at ix;cases h:xs.findIdx? p with
 | none=>
  rw[h]at ix;rw[zbs]at h;have e:(xs.filter fun a=>!p a)=xs:=List.filter_eq_self.2 fun a ha=>by simp[h a ha]
  rw[e];exact qx3 _ _ _ _ ⟨ix,rfl,trivial⟩
 | some i=>
  rw[h]at ix;change Ret _ _ _ [.one (I (i:Int))]at ix;rw[zai]at h;obtain⟨hi,h2,h3⟩:=h;have hx:xs[i]?=some xs[i]:=zu hi;have e0:(xs.take i).filter (fun a=>!p a)=xs.take i:=List.filter_eq_self.2 fun a ha=>by
   obtain⟨j,hj,rfl⟩:=List.getElem_of_mem ha;have hji:j<i:=by simp at hj;omega
   have:=h3 j hji;simpa using this
  have e1:=qeY (fun a=>!p a) hx;rw[h2]at e1;simp only[zZ,zao,zci,zaa]at e1;rw[e0]at e1;have e2:(xs.take i).length=i:=by rw[zay];omega
  obtain⟨zs,l,hz,ht⟩:=qmV xs p g caps hl hc hp' (xs.length-(i+1)) (i+1) xs (by omega) rfl rfl (by rw[e1,e2]);rw[e1,e2]at l;have hlt:(xs.filter fun a=>!p a).length<xs.length:=by
   have e3:xs.filter (fun a=>!p a)=xs.take i++(xs.drop (i+1)).filter fun a=>!p a:=by
    have:=zcb (i+1) xs;rw[←this,List.filter_append,this,e1]
   rw[e3,zab,e2];have:=zat (fun a=>!p a) (xs.drop (i+1));rw[List.length_drop]at this;omega
  generalize xs.filter (fun a=>!p a)=fs at*;refine qHX (qx7 _ _ _ _ _ _ ⟨ix,zbq.2 (by omega),⟨by omega,by omega⟩,l,by simp,by simp;omega,qae _ Cell.flat _,by simp,by simp,by simp;omega,trivial⟩) ?_;simp only[zV,zae,Nat.sub_zero,zck,←zcr];rw[ht,zbw (by simp),zbk (by simp)]
def qaX(k:Int):Bool:=k==5||k==6||k==8
def qba(xs:List Cell)(x:Cell):List Cell×Bool:=
 if (qcK xs x.op x.epoch x.key).2&&decide ((qcK xs x.op x.epoch x.key).1≤x.val) then (xs,false) else (qbD (xs.filter fun a=>!qaF x a) x,true)
def qaj(kind:Int)(xs:List Cell)(x:Cell):List Cell×Bool:=
 if kind=6 then (if qcl xs x then (xs,false) else (qbD xs x,true))
 else if kind=5∨kind=8 then qba xs x
 else (xs,true)
theorem qru(k:Int):Rt 294 [.one (I k)] [.one (B (qaX k))]:=by
 rcases ze (k==5) with h1 | h1
 ·skip
  rw[show qaX k=true from by grind[qaX]];exact qyK ⟨h1,trivial⟩
 ·skip
  rcases ze (k==6) with h2 | h2
  ·skip
   rw[show qaX k=true from by grind[qaX]];exact qyL ⟨h1,h2,trivial⟩
  ·skip
   rw[show qaX k=(k==8) from by grind[qaX]];exact qyM ⟨h1,h2,trivial⟩
theorem qrv(xs:List Cell)(x:Cell)(hl:xs.length≤8388608):Rt 307 [.one (.sl 4 (xs.map Cell.e)),.agg x.e] [.one (.sl 4 ((qba xs x).1.map Cell.e)),.one (B (qba xs x).2)]:=by
 have c:=qG8 xs x.op x.epoch x.key hl;have cp:=qep xs hl;have d:=qHY xs (qaF x) 329 [D.ptr x.e] hl (by kernel_rfl) (fun y _=>qx2 ⟨qrp x y,trivial⟩);have pc:=qrd (xs.filter fun a=>!qaF x a) x (zce (zat ..) hl);unfold qba;generalize qcK xs x.op x.epoch x.key=m at*;obtain⟨v,f⟩:=m;cases f with
 | false=>exact qyg ⟨c,rfl,cp,d,pc,trivial⟩
 | true=>
  by_cases h:v≤x.val
  ·rw[dT h];exact qye ⟨c,rfl,dT h,cp,trivial⟩
  ·rw[dF h];exact qyf ⟨c,rfl,dF h,cp,d,pc,trivial⟩
theorem qHZ(xs acc:List Cell)(x:Cell)(hl:xs.length≤8388608)(i:Nat)(hc:acc.length≤i)(a:Cell)(ha:xs[i]?=some a):Tr prog (qaa f295 0) (qbW (xs.map Cell.e) x.op x.epoch x.key x.val i (acc.map Cell.e)) .normal (qbW (xs.map Cell.e) x.op x.epoch x.key x.val ((i+1:Nat):Int) ((acc++(bif qaF x a then [] else [a])).map Cell.e)):=by
 have hj:=lt_of ha;have hk1:xs[(i:Int).toNat]?=some a:=by simpa using ha
 have hj1:decide ((i:Int)<(↑(xs.map Cell.e).length:Int))=true:=lt1 hj;rcases ze (a.op != x.op) with h1 | h1
 ·skip
  have hs:qaF x a=false:=by grind[qaF]
  rw[hs];rw[show (acc++(bif false then [] else [a])).map Cell.e=acc.map Cell.e++[a.e] from by simp];exact qyQ ⟨hj1,(by first | omega | (simp only[zb,zq,zh];omega) | exact qat a.flat | (exact⟨by omega,by omega⟩)),(by first | omega | (simp only[zb,zq,zh];omega) | exact qat a.flat | (exact⟨by omega,by omega⟩)),(qad Cell.e hk1),h1,(by first | omega | (simp only[zb,zq,zh];omega) | exact qat a.flat | (exact⟨by omega,by omega⟩)),(by first | omega | (simp only[zb,zq,zh];omega) | exact qat a.flat | (exact⟨by omega,by omega⟩)),(qad Cell.e hk1),(by first | omega | (simp only[zb,zq,zh];omega) | exact qat a.flat | (exact⟨by omega,by omega⟩)),(by first | omega | (simp only[zb,zq,zh];omega) | exact qat a.flat | (exact⟨by omega,by omega⟩)),(by first | omega | (simp only[zb,zq,zh];omega) | exact qat a.flat | (exact⟨by omega,by omega⟩)),(by first | omega | (simp only[zb,zq,zh];omega) | exact qat a.flat | (exact⟨by omega,by omega⟩)),trivial⟩
 ·skip
  rcases ze (a.epoch != x.epoch) with h2 | h2
  ·skip
   have hs:qaF x a=false:=by grind[qaF]
   rw[hs];rw[show (acc++(bif false then [] else [a])).map Cell.e=acc.map Cell.e++[a.e] from by simp];exact qyR ⟨hj1,(by first | omega | (simp only[zb,zq,zh];omega) | exact qat a.flat | (exact⟨by omega,by omega⟩)),(by first | omega | (simp only[zb,zq,zh];omega) | exact qat a.flat | (exact⟨by omega,by omega⟩)),(qad Cell.e hk1),h1,(by first | omega | (simp only[zb,zq,zh];omega) | exact qat a.flat | (exact⟨by omega,by omega⟩)),(by first | omega | (simp only[zb,zq,zh];omega) | exact qat a.flat | (exact⟨by omega,by omega⟩)),(qad Cell.e hk1),h2,(by first | omega | (simp only[zb,zq,zh];omega) | exact qat a.flat | (exact⟨by omega,by omega⟩)),(by first | omega | (simp only[zb,zq,zh];omega) | exact qat a.flat | (exact⟨by omega,by omega⟩)),(qad Cell.e hk1),(by first | omega | (simp only[zb,zq,zh];omega) | exact qat a.flat | (exact⟨by omega,by omega⟩)),(by first | omega | (simp only[zb,zq,zh];omega) | exact qat a.flat | (exact⟨by omega,by omega⟩)),(by first | omega | (simp only[zb,zq,zh];omega) | exact qat a.flat | (exact⟨by omega,by omega⟩)),(by first | omega | (simp only[zb,zq,zh];omega) | exact qat a.flat | (exact⟨by omega,by omega⟩)),trivial⟩
  ·skip
   rcases ze (a.key != x.key) with h3 | h3
   ·skip
    have hs:qaF x a=false:=by grind[qaF]
    rw[hs];rw[show (acc++(bif false then [] else [a])).map Cell.e=acc.map Cell.e++[a.e] from by simp];exact qyS ⟨hj1,(by first | omega | (simp only[zb,zq,zh];omega) | exact qat a.flat | (exact⟨by omega,by omega⟩)),(by first | omega | (simp only[zb,zq,zh];omega) | exact qat a.flat | (exact⟨by omega,by omega⟩)),(qad Cell.e hk1),h1,(by first | omega | (simp only[zb,zq,zh];omega) | exact qat a.flat | (exact⟨by omega,by omega⟩)),(by first | omega | (simp only[zb,zq,zh];omega) | exact qat a.flat | (exact⟨by omega,by omega⟩)),(qad Cell.e hk1),h2,(by first | omega | (simp only[zb,zq,zh];omega) | exact qat a.flat | (exact⟨by omega,by omega⟩)),(by first | omega | (simp only[zb,zq,zh];omega) | exact qat a.flat | (exact⟨by omega,by omega⟩)),(qad Cell.e hk1),h3,(by first | omega | (simp only[zb,zq,zh];omega) | exact qat a.flat | (exact⟨by omega,by omega⟩)),(by first | omega | (simp only[zb,zq,zh];omega) | exact qat a.flat | (exact⟨by omega,by omega⟩)),(qad Cell.e hk1),(by first | omega | (simp only[zb,zq,zh];omega) | exact qat a.flat | (exact⟨by omega,by omega⟩)),(by first | omega | (simp only[zb,zq,zh];omega) | exact qat a.flat | (exact⟨by omega,by omega⟩)),(by first | omega | (simp only[zb,zq,zh];omega) | exact qat a.flat | (exact⟨by omega,by omega⟩)),(by first | omega | (simp only[zb,zq,zh];omega) | exact qat a.flat | (exact⟨by omega,by omega⟩)),trivial⟩
   ·skip
    have hs:qaF x a=true:=by grind[qaF]
    rw[hs];rw[show (acc++(bif true then [] else [a])).map Cell.e=acc.map Cell.e from by simp];exact qyT ⟨hj1,(by first | omega | (simp only[zb,zq,zh];omega) | exact qat a.flat | (exact⟨by omega,by omega⟩)),(by first | omega | (simp only[zb,zq,zh];omega) | exact qat a.flat | (exact⟨by omega,by omega⟩)),(qad Cell.e hk1),h1,(by first | omega | (simp only[zb,zq,zh];omega) | exact qat a.flat | (exact⟨by omega,by omega⟩)),(by first | omega | (simp only[zb,zq,zh];omega) | exact qat a.flat | (exact⟨by omega,by omega⟩)),(qad Cell.e hk1),h2,(by first | omega | (simp only[zb,zq,zh];omega) | exact qat a.flat | (exact⟨by omega,by omega⟩)),(by first | omega | (simp only[zb,zq,zh];omega) | exact qat a.flat | (exact⟨by omega,by omega⟩)),(qad Cell.e hk1),h3,(by first | omega | (simp only[zb,zq,zh];omega) | exact qat a.flat | (exact⟨by omega,by omega⟩)),trivial⟩
theorem qH0(p:Cell→Bool){xs:List Cell}{i:Nat}{a:Cell}(h:xs[i]?=some a):(xs.take (i+1)).filter (fun b=>!p b)=(xs.take i).filter (fun b=>!p b)++(bif p a then [] else [a]):=by
 rw[qeY _ h];cases p a<;>rfl
theorem qjR(xs:List Cell)(x:Cell)(hl:xs.length≤8388608):qam prog (qaa f295 0) (qbW (xs.map Cell.e) x.op x.epoch x.key x.val 0 []) (.exit 1) (qgi x.op x.epoch x.key x.val ((xs.filter fun a=>!qaF x a).map Cell.e)):=by
 have l:=qao (P:=prog) (c:=(qaa f295 0)) (qaf 1) xs.length (fun i:Nat=>qbW (xs.map Cell.e) x.op x.epoch x.key x.val i (((xs.take i).filter fun a=>!qaF x a).map Cell.e)) (fun i hi=>by
  obtain⟨a,ha⟩:=qal hi;rw[qH0 (qaF x) ha];exact qHZ xs _ x hl i (qjs _ xs i) a ha) (qyU ⟨ge1,trivial⟩)
 rw[zC]at l;exact l
theorem qrw(kind:Int)(xs:List Cell)(x:Cell)(hl:xs.length≤8388608):Rt 295 [.one (I kind),.one (.sl 4 (xs.map Cell.e)),.agg x.e] [.one (.sl 4 (((qaj kind xs x).1).map Cell.e)),.one (B ((qaj kind xs x).2))]:=by
 have hf:=zat (fun a=>!qaF x a) xs;rcases ze (kind==6) with h1 | h1
 ·skip
  have c2:=qq9 xs x (by omega);rcases ze (qcl xs x) with h3 | h3
  ·skip
   rw[show qaj kind xs x=(xs,false) from by grind[qaj,qba]];exact qyN ⟨(by first | omega | (simp only[zb,zh];omega) | exact qae _ Cell.flat _ | grind[inInt]),(by first | omega | (simp only[zb,zh];omega) | exact qae _ Cell.flat _ | grind[inInt]),(by first | omega | (simp only[zb,zh];omega) | exact qae _ Cell.flat _ | grind[inInt]),h1,c2,h3,trivial⟩
  ·skip
   have c4:=qhJ xs x (by omega);rw[show qaj kind xs x=((qbD xs x),true) from by grind[qaj,qba]];exact qyO ⟨(by first | omega | (simp only[zb,zh];omega) | exact qae _ Cell.flat _ | grind[inInt]),(by first | omega | (simp only[zb,zh];omega) | exact qae _ Cell.flat _ | grind[inInt]),(by first | omega | (simp only[zb,zh];omega) | exact qae _ Cell.flat _ | grind[inInt]),h1,c2,h3,c4,trivial⟩
 ·skip
  rcases ze (kind==5) with h5 | h5
  ·skip
   have c6:=qrq xs x.op x.epoch x.key (by omega);rcases ze ((qcK xs x.op x.epoch x.key).2) with h7 | h7
   ·skip
    rcases ze (decide (((qcK xs x.op x.epoch x.key).1)≤x.val)) with h8 | h8
    ·skip
     rw[show qaj kind xs x=(xs,false) from by grind[qaj,qba]];exact qyP ⟨(by first | omega | (simp only[zb,zh];omega) | exact qae _ Cell.flat _ | grind[inInt]),(by first | omega | (simp only[zb,zh];omega) | exact qae _ Cell.flat _ | grind[inInt]),(by first | omega | (simp only[zb,zh];omega) | exact qae _ Cell.flat _ | grind[inInt]),h1,h5,h5,c6,h7,h8,trivial⟩
    ·skip
     
     have c9:=qhJ (xs.filter fun a=>!qaF x a) x (by omega);rw[show qaj kind xs x=((qbD (xs.filter fun a=>!qaF x a) x),true) from by grind[qaj,qba]];exact qyV ⟨(by first | omega | (simp only[zb,zh];omega) | exact qae _ Cell.flat _ | grind[inInt]),(by first | omega | (simp only[zb,zh];omega) | exact qae _ Cell.flat _ | grind[inInt]),(by first | omega | (simp only[zb,zh];omega) | exact qae _ Cell.flat _ | grind[inInt]),h1,h5,h5,c6,h7,h8,(qjR xs x hl),c9,trivial⟩
   ·skip
    
    have c10:=qhJ (xs.filter fun a=>!qaF x a) x (by omega);rw[show qaj kind xs x=((qbD (xs.filter fun a=>!qaF x a) x),true) from by grind[qaj,qba]];exact qyW ⟨(by first | omega | (simp only[zb,zh];omega) | exact qae _ Cell.flat _ | grind[inInt]),(by first | omega | (simp only[zb,zh];omega) | exact qae _ Cell.flat _ | grind[inInt]),(by first | omega | (simp only[zb,zh];omega) | exact qae _ Cell.flat _ | grind[inInt]),h1,h5,h5,c6,h7,(qjR xs x hl),c10,trivial⟩
  ·skip
   rcases ze (kind==8) with h11 | h11
   ·skip
    have c12:=qrq xs x.op x.epoch x.key (by omega);rcases ze ((qcK xs x.op x.epoch x.key).2) with h13 | h13
    ·skip
     rcases ze (decide (((qcK xs x.op x.epoch x.key).1)≤x.val)) with h14 | h14
     ·skip
      rw[show qaj kind xs x=(xs,false) from by grind[qaj,qba]];exact qyX ⟨(by first | omega | (simp only[zb,zh];omega) | exact qae _ Cell.flat _ | grind[inInt]),(by first | omega | (simp only[zb,zh];omega) | exact qae _ Cell.flat _ | grind[inInt]),(by first | omega | (simp only[zb,zh];omega) | exact qae _ Cell.flat _ | grind[inInt]),h1,h5,h11,c12,h13,h14,trivial⟩
     ·skip
      
      have c15:=qhJ (xs.filter fun a=>!qaF x a) x (by omega);rw[show qaj kind xs x=((qbD (xs.filter fun a=>!qaF x a) x),true) from by grind[qaj,qba]];exact qyY ⟨(by first | omega | (simp only[zb,zh];omega) | exact qae _ Cell.flat _ | grind[inInt]),(by first | omega | (simp only[zb,zh];omega) | exact qae _ Cell.flat _ | grind[inInt]),(by first | omega | (simp only[zb,zh];omega) | exact qae _ Cell.flat _ | grind[inInt]),h1,h5,h11,c12,h13,h14,(qjR xs x hl),c15,trivial⟩
    ·skip
     
     have c16:=qhJ (xs.filter fun a=>!qaF x a) x (by omega);rw[show qaj kind xs x=((qbD (xs.filter fun a=>!qaF x a) x),true) from by grind[qaj,qba]];exact qyZ ⟨(by first | omega | (simp only[zb,zh];omega) | exact qae _ Cell.flat _ | grind[inInt]),(by first | omega | (simp only[zb,zh];omega) | exact qae _ Cell.flat _ | grind[inInt]),(by first | omega | (simp only[zb,zh];omega) | exact qae _ Cell.flat _ | grind[inInt]),h1,h5,h11,c12,h13,(qjR xs x hl),c16,trivial⟩
   ·skip
    rw[show qaj kind xs x=(xs,true) from by grind[qaj,qba]];exact qy0 ⟨(by first | omega | (simp only[zb,zh];omega) | exact qae _ Cell.flat _ | grind[inInt]),(by first | omega | (simp only[zb,zh];omega) | exact qae _ Cell.flat _ | grind[inInt]),(by first | omega | (simp only[zb,zh];omega) | exact qae _ Cell.flat _ | grind[inInt]),h1,h5,h11,trivial⟩
theorem qrx(kind:Int)(xs:List Cell)(x:Cell)(hl:xs.length≤8388608):Rt 303 [.one (I kind),.one (.sl 4 (xs.map Cell.e)),.agg x.e] [.one (.sl 4 (((qaj kind xs x).1).map Cell.e)),.one (B ((qaj kind xs x).2))]:=by
 rcases ze (kind==5) with h1 | h1
 ·skip
  have c2:=qrv xs x (by omega);rw[show qaj kind xs x=(((qba xs x).1),(qba xs x).2) from by grind[qaj,qba,qbD]];exact qyh ⟨h1,h1,c2,trivial⟩
 ·skip
  rcases ze (kind==8) with h3 | h3
  ·skip
   have c4:=qrv xs x (by omega);rw[show qaj kind xs x=(((qba xs x).1),(qba xs x).2) from by grind[qaj,qba,qbD]];exact qyi ⟨h1,h3,c4,trivial⟩
  ·skip
   rcases ze (kind==6) with h5 | h5
   ·skip
    have c6:=qrd xs x (by omega);have c7:=qrb xs x (by omega);rw[show qaj kind xs x=((qbD xs x),!(qcl xs x)) from by grind[qaj,qba,qbD]];exact qyj ⟨h1,h3,h5,c6,c7,trivial⟩
   ·skip
    have c8:=qep xs (by omega);rw[show qaj kind xs x=(xs,true) from by grind[qaj,qba,qbD]];exact qyk ⟨h1,h3,h5,c8,trivial⟩
def sends(x:Node)(s:Stamp)(key val:Int):List Record:=x.outs.map fun k=>⟨k,s,key,val⟩
def cellOf(r:Record):Cell:=⟨r.op,r.stamp.epoch,r.key,r.val⟩
def qas(g:Graph)(cs:List Cell)(r:Record)(x:Node):List Cell×List Record×Bool:=
 if qax g&&qaB r then
  if !(qak x r.key r.val).2.2&&x.kind != 8 then (cs,[],true)
  else if !(qaj x.kind cs ⟨r.op,r.stamp.epoch,r.key,r.val⟩).2 then ((qaj x.kind cs ⟨r.op,r.stamp.epoch,r.key,r.val⟩).1,[],true)
  else if x.kind=7 then
   ((qaj x.kind cs ⟨r.op,r.stamp.epoch,r.key,r.val⟩).1,(bif (qaG r.stamp).2 then sends x (qaG r.stamp).1 (qak x r.key r.val).1 (qak x r.key r.val).2.1 else []),true)
  else ((qaj x.kind cs ⟨r.op,r.stamp.epoch,r.key,r.val⟩).1,sends x r.stamp (qak x r.key r.val).1 (qak x r.key r.val).2.1,true)
 else (cs,[],false)
theorem qgx(x:Node)(s:Stamp)(key val:Int){i:Nat}{k:Int}(h:x.outs[i]?=some k):(((x.outs.take (i+1)).map fun k=>(⟨k,s,key,val⟩:Record)).map Record.e)=(((x.outs.take i).map fun k=>(⟨k,s,key,val⟩:Record)).map Record.e)++[(⟨k,s,key,val⟩:Record).e]:=by
 simp[zbe,h]
theorem qry(x:Node)(hx:x.outs.length≤8388608)(s:Stamp)(key val:Int)(nx:List (List D)):qam prog (qaa f209 0) (qfs x.kind x.a x.b (x.outs.map eI) key val nx s.epoch s.turn 0 []) (.exit 0) (qes nx ((sends x s key val).map Record.e)):=by
 have l:=qao (P:=prog) (c:=(qaa f209 0)) (qaf 0) x.outs.length (fun i:Nat=>qfs x.kind x.a x.b (x.outs.map eI) key val nx s.epoch s.turn i (((x.outs.take i).map fun k=>(⟨k,s,key,val⟩:Record)).map Record.e)) (fun i hi=>by
  obtain⟨k,hk⟩:=qal hi;rw[qgx x s key val hk];exact qHl ⟨lt1 hi,lt0,lt2 hi,qac eI hk,by simp;omega,by simp;omega,qat (Record.flat ⟨k,s,key,val⟩),up1 hi hx,trivial⟩) (qHm ⟨ge1,trivial⟩)
 rw[zC]at l;exact l
theorem qrz(x:Node)(hx:x.outs.length≤8388608)(s:Stamp)(key val:Int)(nx:List (List D)):qam prog (qaa f209 0) (qft s.epoch s.turn x.kind x.a x.b (x.outs.map eI) key val nx 0 []) (.exit 0) (qes nx ((sends x s key val).map Record.e)):=by
 have l:=qao (P:=prog) (c:=(qaa f209 0)) (qaf 0) x.outs.length (fun i:Nat=>qft s.epoch s.turn x.kind x.a x.b (x.outs.map eI) key val nx i (((x.outs.take i).map fun k=>(⟨k,s,key,val⟩:Record)).map Record.e)) (fun i hi=>by
  obtain⟨k,hk⟩:=qal hi;rw[qgx x s key val hk];exact qHo ⟨lt1 hi,lt0,lt2 hi,qac eI hk,by simp;omega,by simp;omega,qat (Record.flat ⟨k,s,key,val⟩),up1 hi hx,trivial⟩) (qHp ⟨ge1,trivial⟩)
 rw[zC]at l;exact l
theorem qrA(x:Node)(hx:x.outs.length≤8388608)(s:Stamp)(key val:Int)(nx:List (List D)):qam prog (qaa f209 0) (qfu nx x.kind x.a x.b (x.outs.map eI) key val s.epoch s.turn 0 []) (.exit 0) (qet nx ((sends x s key val).map Record.e)):=by
 have l:=qao (P:=prog) (c:=(qaa f209 0)) (qaf 0) x.outs.length (fun i:Nat=>qfu nx x.kind x.a x.b (x.outs.map eI) key val s.epoch s.turn i (((x.outs.take i).map fun k=>(⟨k,s,key,val⟩:Record)).map Record.e)) (fun i hi=>by
  obtain⟨k,hk⟩:=qal hi;rw[qgx x s key val hk];exact qHs ⟨lt1 hi,lt0,lt2 hi,qac eI hk,by simp;omega,by simp;omega,qat (Record.flat ⟨k,s,key,val⟩),up1 hi hx,trivial⟩) (qHt ⟨ge1,trivial⟩)
 rw[zC]at l;exact l
theorem qrB(x:Node)(hx:x.outs.length≤8388608)(s:Stamp)(key val:Int)(nx:List (List D)):qam prog (qaa f209 0) (qfv nx s.epoch s.turn x.kind x.a x.b (x.outs.map eI) key val 0 []) (.exit 0) (qet nx ((sends x s key val).map Record.e)):=by
 have l:=qao (P:=prog) (c:=(qaa f209 0)) (qaf 0) x.outs.length (fun i:Nat=>qfv nx s.epoch s.turn x.kind x.a x.b (x.outs.map eI) key val i (((x.outs.take i).map fun k=>(⟨k,s,key,val⟩:Record)).map Record.e)) (fun i hi=>by
  obtain⟨k,hk⟩:=qal hi;rw[qgx x s key val hk];exact qHv ⟨lt1 hi,lt0,lt2 hi,qac eI hk,by simp;omega,by simp;omega,qat (Record.flat ⟨k,s,key,val⟩),up1 hi hx,trivial⟩) (qHw ⟨ge1,trivial⟩)
 rw[zC]at l;exact l
theorem qrC(x:Node)(hx:x.outs.length≤8388608)(s:Stamp)(key val:Int)(nx:List (List D)):qam prog (qaa f238 0) (qfw s.epoch s.turn (x.outs.map eI) key val nx 0 []) (.exit 0) (qeu nx ((sends x s key val).map Record.e)):=by
 have l:=qao (P:=prog) (c:=(qaa f238 0)) (qaf 0) x.outs.length (fun i:Nat=>qfw s.epoch s.turn (x.outs.map eI) key val nx i (((x.outs.take i).map fun k=>(⟨k,s,key,val⟩:Record)).map Record.e)) (fun i hi=>by
  obtain⟨k,hk⟩:=qal hi;rw[qgx x s key val hk];exact qHL ⟨lt1 hi,lt0,lt2 hi,qac eI hk,rfl,by simp;omega,by simp;omega,qat (Record.flat ⟨k,s,key,val⟩),up1 hi hx,trivial⟩) (qHM ⟨ge1,trivial⟩)
 rw[zC]at l;exact l
theorem qrD(x:Node)(hx:x.outs.length≤8388608)(b:Bool)(s:Stamp)(key val:Int)(nx:List (List D)):qam prog (qaa f238 0) (qdA (x.outs.map eI) key val nx s.epoch s.turn b 0 []) (.exit 0) (qeu nx ((bif b then sends x s key val else []).map Record.e)):=by
 cases b with
 | true=>
  have l:=qao (P:=prog) (c:=(qaa f238 0)) (qaf 0) x.outs.length (fun i:Nat=>qdA (x.outs.map eI) key val nx s.epoch s.turn true i (((x.outs.take i).map fun k=>(⟨k,s,key,val⟩:Record)).map Record.e)) (fun i hi=>by
   obtain⟨k,hk⟩:=qal hi;rw[qgx x s key val hk];exact qHI ⟨lt1 hi,lt0,lt2 hi,qac eI hk,rfl,by simp;omega,by simp;omega,qat (Record.flat ⟨k,s,key,val⟩),up1 hi hx,trivial⟩) (qrt ⟨ge1,trivial⟩)
  rw[zC]at l;exact l
 | false=>
  exact qao (P:=prog) (c:=(qaa f238 0)) (qaf 0) x.outs.length (fun i:Nat=>qdA (x.outs.map eI) key val nx s.epoch s.turn false i []) (fun i hi=>by
   obtain⟨k,hk⟩:=qal hi;exact qHJ ⟨lt1 hi,lt0,lt2 hi,qac eI hk,rfl,up1 hi hx,trivial⟩) (qrt ⟨ge1,trivial⟩)
theorem qH1(g:Graph)(cs:List Cell)(r:Record)(x:Node)(hg:g.sz≤8388608)(hl:cs.length≤8388608)(hn:qaP g r.op=some x):Rt 209 [.agg g.e,.one (.sl 4 (cs.map Cell.e)),.agg r.e] [.one (.sl 4 ((qas g cs r x).1.map Cell.e)),.one (.sl 5 ((qas g cs r x).2.1.map Record.e)),.one (B (qas g cs r x).2.2)]:=by
 have hx:=Graph.outs_le hg (qmM hn);obtain⟨hk0,hk2,_,_⟩:=qjN hn;have hk1:g.nodes[r.op.toNat]?=some x:=by have:=hn;unfold qaP at this;rwa[zp hk0]at this
 have c1:=qjP g r.op (x,true) (by unfold qeq;rw[hn]) hg;have c2:=qjQ g hg;rcases ze (qax g) with h3 | h3
 ·skip
  have c4:=qdU r;rcases ze (qaB r) with h5 | h5
  ·skip
   have c6:=qG4 x r.key r.val hx;rcases ze ((qak x r.key r.val).2.2) with h7 | h7
   ·skip
    have c8:=qru x.kind;rcases ze (qaX x.kind) with h9 | h9
    ·skip
     have c10:=qrw x.kind cs (⟨r.op,r.stamp.epoch,r.key,r.val⟩:Cell) (by omega);rcases ze ((qaj x.kind cs (⟨r.op,r.stamp.epoch,r.key,r.val⟩:Cell)).2) with h11 | h11
     ·skip
      rcases ze (x.kind==7) with h12 | h12
      ·skip
       have c13:=qgw r.stamp;rcases ze ((qaG r.stamp).2) with h14 | h14
       ·skip
        
        rw[show qas g cs r x=(((qaj x.kind cs (⟨r.op,r.stamp.epoch,r.key,r.val⟩:Cell)).1),(sends x ((qaG r.stamp).1) ((qak x r.key r.val).1) ((qak x r.key r.val).2.1)),true) from by grind[qas,qaX,qaj]];exact qHA ⟨(by first | omega | (simp only[zb,zh];omega) | exact qae _ Cell.flat _ | grind[inInt]),(by first | omega | (simp only[zb,zh];omega) | exact qae _ Cell.flat _ | grind[inInt]),(by first | omega | (simp only[zb,zh];omega) | exact qae _ Cell.flat _ | grind[inInt]),c1,rfl,c2,(by rw[h3];rfl),c4,(by rw[h5];rfl),c6,(by rw[h7];rfl),c8,h9,c10,(by rw[h11];rfl),h12,c13,(by rw[h14];rfl),(qry x hx ((qaG r.stamp).1) ((qak x r.key r.val).1) ((qak x r.key r.val).2.1) _),trivial⟩
       ·skip
        rw[show qas g cs r x=(((qaj x.kind cs (⟨r.op,r.stamp.epoch,r.key,r.val⟩:Cell)).1),([]:List Record),true) from by grind[qas,qaX,qaj]];exact qHz ⟨(by first | omega | (simp only[zb,zh];omega) | exact qae _ Cell.flat _ | grind[inInt]),(by first | omega | (simp only[zb,zh];omega) | exact qae _ Cell.flat _ | grind[inInt]),(by first | omega | (simp only[zb,zh];omega) | exact qae _ Cell.flat _ | grind[inInt]),c1,rfl,c2,(by rw[h3];rfl),c4,(by rw[h5];rfl),c6,(by rw[h7];rfl),c8,h9,c10,(by rw[h11];rfl),h12,c13,(by rw[h14];rfl),trivial⟩
      ·skip
       
       rw[show qas g cs r x=(((qaj x.kind cs (⟨r.op,r.stamp.epoch,r.key,r.val⟩:Cell)).1),(sends x r.stamp ((qak x r.key r.val).1) ((qak x r.key r.val).2.1)),true) from by grind[qas,qaX,qaj]];exact qHB ⟨(by first | omega | (simp only[zb,zh];omega) | exact qae _ Cell.flat _ | grind[inInt]),(by first | omega | (simp only[zb,zh];omega) | exact qae _ Cell.flat _ | grind[inInt]),(by first | omega | (simp only[zb,zh];omega) | exact qae _ Cell.flat _ | grind[inInt]),c1,rfl,c2,(by rw[h3];rfl),c4,(by rw[h5];rfl),c6,(by rw[h7];rfl),c8,h9,c10,(by rw[h11];rfl),h12,(qrz x hx r.stamp ((qak x r.key r.val).1) ((qak x r.key r.val).2.1) _),trivial⟩
     ·skip
      rw[show qas g cs r x=(((qaj x.kind cs (⟨r.op,r.stamp.epoch,r.key,r.val⟩:Cell)).1),([]:List Record),true) from by grind[qas,qaX,qaj]];exact qHy ⟨(by first | omega | (simp only[zb,zh];omega) | exact qae _ Cell.flat _ | grind[inInt]),(by first | omega | (simp only[zb,zh];omega) | exact qae _ Cell.flat _ | grind[inInt]),(by first | omega | (simp only[zb,zh];omega) | exact qae _ Cell.flat _ | grind[inInt]),c1,rfl,c2,(by rw[h3];rfl),c4,(by rw[h5];rfl),c6,(by rw[h7];rfl),c8,h9,c10,(by rw[h11];rfl),trivial⟩
    ·skip
     rcases ze (x.kind==7) with h15 | h15
     ·skip
      have c16:=qgw r.stamp;rcases ze ((qaG r.stamp).2) with h17 | h17
      ·skip
       
       rw[show qas g cs r x=(cs,(sends x ((qaG r.stamp).1) ((qak x r.key r.val).1) ((qak x r.key r.val).2.1)),true) from by grind[qas,qaX,qaj]];exact qHD ⟨(by first | omega | (simp only[zb,zh];omega) | exact qae _ Cell.flat _ | grind[inInt]),(by first | omega | (simp only[zb,zh];omega) | exact qae _ Cell.flat _ | grind[inInt]),(by first | omega | (simp only[zb,zh];omega) | exact qae _ Cell.flat _ | grind[inInt]),c1,rfl,c2,(by rw[h3];rfl),c4,(by rw[h5];rfl),c6,(by rw[h7];rfl),c8,h9,h15,c16,(by rw[h17];rfl),(qrA x hx ((qaG r.stamp).1) ((qak x r.key r.val).1) ((qak x r.key r.val).2.1) _),trivial⟩
      ·skip
       rw[show qas g cs r x=(cs,([]:List Record),true) from by grind[qas,qaX,qaj]];exact qHC ⟨(by first | omega | (simp only[zb,zh];omega) | exact qae _ Cell.flat _ | grind[inInt]),(by first | omega | (simp only[zb,zh];omega) | exact qae _ Cell.flat _ | grind[inInt]),(by first | omega | (simp only[zb,zh];omega) | exact qae _ Cell.flat _ | grind[inInt]),c1,rfl,c2,(by rw[h3];rfl),c4,(by rw[h5];rfl),c6,(by rw[h7];rfl),c8,h9,h15,c16,(by rw[h17];rfl),trivial⟩
     ·skip
      
      rw[show qas g cs r x=(cs,(sends x r.stamp ((qak x r.key r.val).1) ((qak x r.key r.val).2.1)),true) from by grind[qas,qaX,qaj]];exact qHE ⟨(by first | omega | (simp only[zb,zh];omega) | exact qae _ Cell.flat _ | grind[inInt]),(by first | omega | (simp only[zb,zh];omega) | exact qae _ Cell.flat _ | grind[inInt]),(by first | omega | (simp only[zb,zh];omega) | exact qae _ Cell.flat _ | grind[inInt]),c1,rfl,c2,(by rw[h3];rfl),c4,(by rw[h5];rfl),c6,(by rw[h7];rfl),c8,h9,h15,(qrB x hx r.stamp ((qak x r.key r.val).1) ((qak x r.key r.val).2.1) _),trivial⟩
   ·skip
    rcases ze (x.kind != 8) with h18 | h18
    ·skip
     rw[show qas g cs r x=(cs,([]:List Record),true) from by grind[qas,qaX,qaj]];exact qHi ⟨(by first | omega | (simp only[zb,zh];omega) | exact qae _ Cell.flat _ | grind[inInt]),(by first | omega | (simp only[zb,zh];omega) | exact qae _ Cell.flat _ | grind[inInt]),(by first | omega | (simp only[zb,zh];omega) | exact qae _ Cell.flat _ | grind[inInt]),c1,rfl,c2,(by rw[h3];rfl),c4,(by rw[h5];rfl),c6,(by rw[h7];rfl),h18,trivial⟩
    ·skip
     have c19:=qru x.kind;rcases ze (qaX x.kind) with h20 | h20
     ·skip
      have c21:=qrw x.kind cs (⟨r.op,r.stamp.epoch,r.key,r.val⟩:Cell) (by omega);rcases ze ((qaj x.kind cs (⟨r.op,r.stamp.epoch,r.key,r.val⟩:Cell)).2) with h22 | h22
      ·skip
       rcases ze (x.kind==7) with h23 | h23
       ·skip
        have c24:=qgw r.stamp;rcases ze ((qaG r.stamp).2) with h25 | h25
        ·skip
         
         rw[show qas g cs r x=(((qaj x.kind cs (⟨r.op,r.stamp.epoch,r.key,r.val⟩:Cell)).1),(sends x ((qaG r.stamp).1) ((qak x r.key r.val).1) ((qak x r.key r.val).2.1)),true) from by grind[qas,qaX,qaj]];exact qHn ⟨(by first | omega | (simp only[zb,zh];omega) | exact qae _ Cell.flat _ | grind[inInt]),(by first | omega | (simp only[zb,zh];omega) | exact qae _ Cell.flat _ | grind[inInt]),(by first | omega | (simp only[zb,zh];omega) | exact qae _ Cell.flat _ | grind[inInt]),c1,rfl,c2,(by rw[h3];rfl),c4,(by rw[h5];rfl),c6,(by rw[h7];rfl),h18,c19,h20,c21,(by rw[h22];rfl),h23,c24,(by rw[h25];rfl),(qry x hx ((qaG r.stamp).1) ((qak x r.key r.val).1) ((qak x r.key r.val).2.1) _),trivial⟩
        ·skip
         rw[show qas g cs r x=(((qaj x.kind cs (⟨r.op,r.stamp.epoch,r.key,r.val⟩:Cell)).1),([]:List Record),true) from by grind[qas,qaX,qaj]];exact qHk ⟨(by first | omega | (simp only[zb,zh];omega) | exact qae _ Cell.flat _ | grind[inInt]),(by first | omega | (simp only[zb,zh];omega) | exact qae _ Cell.flat _ | grind[inInt]),(by first | omega | (simp only[zb,zh];omega) | exact qae _ Cell.flat _ | grind[inInt]),c1,rfl,c2,(by rw[h3];rfl),c4,(by rw[h5];rfl),c6,(by rw[h7];rfl),h18,c19,h20,c21,(by rw[h22];rfl),h23,c24,(by rw[h25];rfl),trivial⟩
       ·skip
        
        rw[show qas g cs r x=(((qaj x.kind cs (⟨r.op,r.stamp.epoch,r.key,r.val⟩:Cell)).1),(sends x r.stamp ((qak x r.key r.val).1) ((qak x r.key r.val).2.1)),true) from by grind[qas,qaX,qaj]];exact qHq ⟨(by first | omega | (simp only[zb,zh];omega) | exact qae _ Cell.flat _ | grind[inInt]),(by first | omega | (simp only[zb,zh];omega) | exact qae _ Cell.flat _ | grind[inInt]),(by first | omega | (simp only[zb,zh];omega) | exact qae _ Cell.flat _ | grind[inInt]),c1,rfl,c2,(by rw[h3];rfl),c4,(by rw[h5];rfl),c6,(by rw[h7];rfl),h18,c19,h20,c21,(by rw[h22];rfl),h23,(qrz x hx r.stamp ((qak x r.key r.val).1) ((qak x r.key r.val).2.1) _),trivial⟩
      ·skip
       rw[show qas g cs r x=(((qaj x.kind cs (⟨r.op,r.stamp.epoch,r.key,r.val⟩:Cell)).1),([]:List Record),true) from by grind[qas,qaX,qaj]];exact qHj ⟨(by first | omega | (simp only[zb,zh];omega) | exact qae _ Cell.flat _ | grind[inInt]),(by first | omega | (simp only[zb,zh];omega) | exact qae _ Cell.flat _ | grind[inInt]),(by first | omega | (simp only[zb,zh];omega) | exact qae _ Cell.flat _ | grind[inInt]),c1,rfl,c2,(by rw[h3];rfl),c4,(by rw[h5];rfl),c6,(by rw[h7];rfl),h18,c19,h20,c21,(by rw[h22];rfl),trivial⟩
     ·skip
      rcases ze (x.kind==7) with h26 | h26
      ·skip
       have c27:=qgw r.stamp;rcases ze ((qaG r.stamp).2) with h28 | h28
       ·skip
        
        rw[show qas g cs r x=(cs,(sends x ((qaG r.stamp).1) ((qak x r.key r.val).1) ((qak x r.key r.val).2.1)),true) from by grind[qas,qaX,qaj]];exact qHu ⟨(by first | omega | (simp only[zb,zh];omega) | exact qae _ Cell.flat _ | grind[inInt]),(by first | omega | (simp only[zb,zh];omega) | exact qae _ Cell.flat _ | grind[inInt]),(by first | omega | (simp only[zb,zh];omega) | exact qae _ Cell.flat _ | grind[inInt]),c1,rfl,c2,(by rw[h3];rfl),c4,(by rw[h5];rfl),c6,(by rw[h7];rfl),h18,c19,h20,h26,c27,(by rw[h28];rfl),(qrA x hx ((qaG r.stamp).1) ((qak x r.key r.val).1) ((qak x r.key r.val).2.1) _),trivial⟩
       ·skip
        rw[show qas g cs r x=(cs,([]:List Record),true) from by grind[qas,qaX,qaj]];exact qHr ⟨(by first | omega | (simp only[zb,zh];omega) | exact qae _ Cell.flat _ | grind[inInt]),(by first | omega | (simp only[zb,zh];omega) | exact qae _ Cell.flat _ | grind[inInt]),(by first | omega | (simp only[zb,zh];omega) | exact qae _ Cell.flat _ | grind[inInt]),c1,rfl,c2,(by rw[h3];rfl),c4,(by rw[h5];rfl),c6,(by rw[h7];rfl),h18,c19,h20,h26,c27,(by rw[h28];rfl),trivial⟩
      ·skip
       
       rw[show qas g cs r x=(cs,(sends x r.stamp ((qak x r.key r.val).1) ((qak x r.key r.val).2.1)),true) from by grind[qas,qaX,qaj]];exact qHx ⟨(by first | omega | (simp only[zb,zh];omega) | exact qae _ Cell.flat _ | grind[inInt]),(by first | omega | (simp only[zb,zh];omega) | exact qae _ Cell.flat _ | grind[inInt]),(by first | omega | (simp only[zb,zh];omega) | exact qae _ Cell.flat _ | grind[inInt]),c1,rfl,c2,(by rw[h3];rfl),c4,(by rw[h5];rfl),c6,(by rw[h7];rfl),h18,c19,h20,h26,(qrB x hx r.stamp ((qak x r.key r.val).1) ((qak x r.key r.val).2.1) _),trivial⟩
  ·skip
   rw[show qas g cs r x=(cs,([]:List Record),false) from by grind[qas,qaX,qaj]];exact qHh ⟨(by first | omega | (simp only[zb,zh];omega) | exact qae _ Cell.flat _ | grind[inInt]),(by first | omega | (simp only[zb,zh];omega) | exact qae _ Cell.flat _ | grind[inInt]),(by first | omega | (simp only[zb,zh];omega) | exact qae _ Cell.flat _ | grind[inInt]),c1,rfl,c2,(by rw[h3];rfl),c4,(by rw[h5];rfl),trivial⟩
 ·skip
  rw[show qas g cs r x=(cs,([]:List Record),false) from by grind[qas,qaX,qaj]];exact qHg ⟨(by first | omega | (simp only[zb,zh];omega) | exact qae _ Cell.flat _ | grind[inInt]),(by first | omega | (simp only[zb,zh];omega) | exact qae _ Cell.flat _ | grind[inInt]),(by first | omega | (simp only[zb,zh];omega) | exact qae _ Cell.flat _ | grind[inInt]),c1,rfl,c2,(by rw[h3];rfl),trivial⟩
theorem qH2(g:Graph)(cs:List Cell)(r:Record)(x:Node)(hg:g.sz≤8388608)(hl:cs.length≤8388608)(hn:qaP g r.op=some x):Rt 238 [.agg g.e,.one (.sl 4 (cs.map Cell.e)),.agg r.e] [.one (.sl 4 ((qas g cs r x).1.map Cell.e)),.one (.sl 5 ((qas g cs r x).2.1.map Record.e)),.one (B (qas g cs r x).2.2)]:=by
 have hx:=Graph.outs_le hg (qmM hn);obtain⟨hk0,hk2,_,_⟩:=qjN hn;have hk1:g.nodes[r.op.toNat]?=some x:=by have:=hn;unfold qaP at this;rwa[zp hk0]at this
 have c1:=qfr g hg;rcases ze (qax g) with h2 | h2
 ·skip
  have c3:=qdz r;rcases ze (qaB r) with h4 | h4
  ·skip
   have c5:=qgv g r.op true (by rw[hn];rfl) hg;have c6:=qG5 x r.key r.val hx;rcases ze ((qak x r.key r.val).2.2) with h7 | h7
   ·skip
    have c8:=qrx x.kind cs (⟨r.op,r.stamp.epoch,r.key,r.val⟩:Cell) (by omega);rcases ze ((qaj x.kind cs (⟨r.op,r.stamp.epoch,r.key,r.val⟩:Cell)).2) with h9 | h9
    ·skip
     rcases ze (x.kind==7) with h10 | h10
     ·skip
      have c11:=qmT r.stamp
      
      rw[show qas g cs r x=(((qaj x.kind cs (⟨r.op,r.stamp.epoch,r.key,r.val⟩:Cell)).1),(bif (qaG r.stamp).2 then sends x ((qaG r.stamp).1) ((qak x r.key r.val).1) ((qak x r.key r.val).2.1) else []),true) from by grind[qas,qaX,qaj]];exact qHP ⟨c1,(by rw[h2];rfl),c3,(by rw[h4];rfl),c5,rfl,(by first | omega | (simp only[zb,zh];omega) | exact qae _ Cell.flat _ | grind[inInt]),(by first | omega | (simp only[zb,zh];omega) | exact qae _ Cell.flat _ | grind[inInt]),(qad Node.e hk1),c6,(by rw[h7];rfl),c8,(by rw[h9];rfl),h10,c11,(qrD x hx ((qaG r.stamp).2) ((qaG r.stamp).1) ((qak x r.key r.val).1) ((qak x r.key r.val).2.1) _),trivial⟩
     ·skip
      
      rw[show qas g cs r x=(((qaj x.kind cs (⟨r.op,r.stamp.epoch,r.key,r.val⟩:Cell)).1),(sends x r.stamp ((qak x r.key r.val).1) ((qak x r.key r.val).2.1)),true) from by grind[qas,qaX,qaj]];exact qHQ ⟨c1,(by rw[h2];rfl),c3,(by rw[h4];rfl),c5,rfl,(by first | omega | (simp only[zb,zh];omega) | exact qae _ Cell.flat _ | grind[inInt]),(by first | omega | (simp only[zb,zh];omega) | exact qae _ Cell.flat _ | grind[inInt]),(qad Node.e hk1),c6,(by rw[h7];rfl),c8,(by rw[h9];rfl),h10,(qrC x hx r.stamp ((qak x r.key r.val).1) ((qak x r.key r.val).2.1) _),trivial⟩
    ·skip
     rw[show qas g cs r x=(((qaj x.kind cs (⟨r.op,r.stamp.epoch,r.key,r.val⟩:Cell)).1),([]:List Record),true) from by grind[qas,qaX,qaj]];exact qHO ⟨c1,(by rw[h2];rfl),c3,(by rw[h4];rfl),c5,rfl,(by first | omega | (simp only[zb,zh];omega) | exact qae _ Cell.flat _ | grind[inInt]),(by first | omega | (simp only[zb,zh];omega) | exact qae _ Cell.flat _ | grind[inInt]),(qad Node.e hk1),c6,(by rw[h7];rfl),c8,(by rw[h9];rfl),trivial⟩
   ·skip
    rcases ze (x.kind != 8) with h12 | h12
    ·skip
     have c13:=qep cs (by omega);rw[show qas g cs r x=(cs,([]:List Record),true) from by grind[qas,qaX,qaj]];exact qHG ⟨c1,(by rw[h2];rfl),c3,(by rw[h4];rfl),c5,rfl,(by first | omega | (simp only[zb,zh];omega) | exact qae _ Cell.flat _ | grind[inInt]),(by first | omega | (simp only[zb,zh];omega) | exact qae _ Cell.flat _ | grind[inInt]),(qad Node.e hk1),c6,(by rw[h7];rfl),h12,c13,trivial⟩
    ·skip
     have c14:=qrx x.kind cs (⟨r.op,r.stamp.epoch,r.key,r.val⟩:Cell) (by omega);rcases ze ((qaj x.kind cs (⟨r.op,r.stamp.epoch,r.key,r.val⟩:Cell)).2) with h15 | h15
     ·skip
      rcases ze (x.kind==7) with h16 | h16
      ·skip
       have c17:=qmT r.stamp
       
       rw[show qas g cs r x=(((qaj x.kind cs (⟨r.op,r.stamp.epoch,r.key,r.val⟩:Cell)).1),(bif (qaG r.stamp).2 then sends x ((qaG r.stamp).1) ((qak x r.key r.val).1) ((qak x r.key r.val).2.1) else []),true) from by grind[qas,qaX,qaj]];exact qHK ⟨c1,(by rw[h2];rfl),c3,(by rw[h4];rfl),c5,rfl,(by first | omega | (simp only[zb,zh];omega) | exact qae _ Cell.flat _ | grind[inInt]),(by first | omega | (simp only[zb,zh];omega) | exact qae _ Cell.flat _ | grind[inInt]),(qad Node.e hk1),c6,(by rw[h7];rfl),h12,c14,(by rw[h15];rfl),h16,c17,(qrD x hx ((qaG r.stamp).2) ((qaG r.stamp).1) ((qak x r.key r.val).1) ((qak x r.key r.val).2.1) _),trivial⟩
      ·skip
       
       rw[show qas g cs r x=(((qaj x.kind cs (⟨r.op,r.stamp.epoch,r.key,r.val⟩:Cell)).1),(sends x r.stamp ((qak x r.key r.val).1) ((qak x r.key r.val).2.1)),true) from by grind[qas,qaX,qaj]];exact qHN ⟨c1,(by rw[h2];rfl),c3,(by rw[h4];rfl),c5,rfl,(by first | omega | (simp only[zb,zh];omega) | exact qae _ Cell.flat _ | grind[inInt]),(by first | omega | (simp only[zb,zh];omega) | exact qae _ Cell.flat _ | grind[inInt]),(qad Node.e hk1),c6,(by rw[h7];rfl),h12,c14,(by rw[h15];rfl),h16,(qrC x hx r.stamp ((qak x r.key r.val).1) ((qak x r.key r.val).2.1) _),trivial⟩
     ·skip
      rw[show qas g cs r x=(((qaj x.kind cs (⟨r.op,r.stamp.epoch,r.key,r.val⟩:Cell)).1),([]:List Record),true) from by grind[qas,qaX,qaj]];exact qHH ⟨c1,(by rw[h2];rfl),c3,(by rw[h4];rfl),c5,rfl,(by first | omega | (simp only[zb,zh];omega) | exact qae _ Cell.flat _ | grind[inInt]),(by first | omega | (simp only[zb,zh];omega) | exact qae _ Cell.flat _ | grind[inInt]),(qad Node.e hk1),c6,(by rw[h7];rfl),h12,c14,(by rw[h15];rfl),trivial⟩
  ·skip
   have c18:=qep cs (by omega);rw[show qas g cs r x=(cs,([]:List Record),false) from by grind[qas,qaX,qaj]];exact qrs ⟨c1,(by rw[h2];rfl),c3,(by rw[h4];rfl),c18,trivial⟩
 ·skip
  have c19:=qep cs (by omega);rw[show qas g cs r x=(cs,([]:List Record),false) from by grind[qas,qaX,qaj]];exact qrr ⟨c1,(by rw[h2];rfl),c19,trivial⟩
end Go.Proofs.YtdkobdhckkjmeaaGreat
