import Derived.Test.YtdchjefneblpgaaGreatP16
import Derived.Test.YtdchjefneblpgaaGreatGS
set_option linter.unusedVariables false
set_option linter.unusedSimpArgs false
namespace Go.Proofs.YtdchjefneblpgaaGreat
open Go.Sx Go.RowKit Go.Proofs.Tryz
theorem apC{P:Program}{f:Nat}{args:List GA}{k:Nat}{l gV:List (List D)}(h:kY P f args [.one (.J k l)])(al:l=gV):kY P f args [.one (.J k gV)]:=al▸h
theorem NF(xs:List Cell)(p:Cell->Bool)(g:Nat)(bj:List D)(al:xs.length<=8388608)(ak:gM prog g=true)(hp:∀x∈xs,∀r,p x=r->aq g ([.agg x.e]++bj.map .one) [.one (B r)]):
  ∀(n i:Nat) (ys:List Cell),n+i=xs.length->ys.length=xs.length->ys.drop i=xs.drop i->ys.take ((xs.take i).filter fun a=>!p a).length=(xs.take i).filter (fun a=>!p a)->
  ∃zs:List Cell,c8 prog (ap f345 0) (vM g bj i ((xs.take i).filter fun a=>!p a).length (ys.map Cell.e)) (.exit 0) (L7 (zs.map Cell.e) (xs.filter fun a=>!p a).length)/\zs.length=xs.length/\zs.take (xs.filter fun a=>!p a).length=xs.filter (fun a=>!p a)
 | 0,i,ys,hi,bD,_,bG=>by
  have e:xs.take i=xs:=yz (by omega);rw[e]at bG ⊢;exact⟨ys,.last (cn 0) (azK ⟨ea (by simp;omega),aa⟩),bD,bG⟩
 | n+1,i,ys,hi,bD,aE,bG=>by
  obtain⟨a,ai⟩:=c4 (xs:=xs) (i:=i) (by omega);have BX:ys[i]?=some a:=by
   have e1:ys[i]?=(ys.drop i)[0]?:=by simp
   grind
  have bF:=Ag (fun a=>!p a) ai;have hle:=Hf (fun a=>!p a) xs i;have o1:ys.drop (i+1)=xs.drop (i+1):=by
   have:=congrArg (List.drop 1) aE;grind[List.drop_drop,Nat.add_comm]
  cases h:p a with
  | true=>
   rw[h]at bF;simp only[iU,nR,l7,io]at bF;obtain⟨zs,h1,U,aA⟩:=NF xs p g bj al ak hp n (i+1) ys (by omega) bD o1 (by grind);rw[bF]at h1;exact⟨zs,.more (azJ ⟨dh (by simp;omega),bA,by simp;omega,bC Cell.e BX,ak,hp a (c9 ai) true h,rfl,⟨by omega,by omega⟩,aa⟩) h1,U,aA⟩
  | false=>
   rw[h]at bF;simp only[oH,gj]at bF;generalize bk:((xs.take i).filter fun a=>!p a).length=j at*;obtain⟨b,aw⟩:=c4 (xs:=ys) (i:=j) (by omega);obtain⟨zs,h1,U,aA⟩:=NF xs p g bj al ak hp n (i+1) (ys.set j a) (by omega) (by grind) (by grind[List.drop_set_of_lt]) (by
    rw[bF,hs,bk,List.length_singleton,List.take_set,<-bG];have kD:j<ys.length:=by omega
    simp_all[List.take_succ_eq_append_getElem,List.set_append_right,nS,Nat.min_eq_left,Nat.le_of_lt])
   rw[bF,hs,bk,List.length_singleton]at h1;refine⟨zs,.more (qC (fun l=>vM g bj ((i+1:Nat):Int) ((j+1:Nat):Int) l) (azI ⟨dh (by simp;omega),bA,by simp;omega,bC Cell.e BX,ak,hp a (c9 ai) false h,rfl,bA,by simp;omega,bC Cell.e aw,⟨by omega,by omega⟩,⟨by omega,by omega⟩,aa⟩) ?_) h1,U,aA⟩;show List.set _ _ a.e=_;simp_all
theorem apD(xs:List Cell)(p:Cell->Bool)(g:Nat)(bj:List D)(al:xs.length<=8388608)(ak:gM prog g=true)(hp:∀x∈xs,aq g ([.agg x.e]++bj.map .one) [.one (B (p x))]):
  kY prog 345 [.one (.fk 4 (xs.map Cell.e) none),.one (.ro (.cl g bj))] [.one (.J 4 ((xs.filter fun a=>!p a).map Cell.e))]:=by
 have k4:∀x∈xs,∀r,p x=r->aq g ([.agg x.e]++bj.map .one) [.one (B r)]:=fun x af r h=>h▸hp x af
 have lx:=aAj xs p g bj al ak hp;unfold lv at lx;cases h:xs.findIdx? p with
 | none=>
  rw[h]at lx;rw[IM]at h;have e:(xs.filter fun a=>!p a)=xs:=List.filter_eq_self.2 fun a ai=>by simp[h a ai]
  rw[e];exact azH ⟨lx,rfl,aa⟩
 | some i=>
  rw[h]at lx;change iV _ _ _ [.one (I (i:Int))]at lx;rw[uG]at h;obtain⟨hi,U,aA⟩:=h;have af:xs[i]?=some xs[i]:=iD hi;have bE:(xs.take i).filter (fun a=>!p a)=xs.take i:=List.filter_eq_self.2 fun a ai=>by
   grind[List.getElem_of_mem]
  have e1:=Ag (fun a=>!p a) af;rw[U]at e1;simp only[iU,nR,l7,io]at e1;rw[bE]at e1;have e2:(xs.take i).length=i:=by grind
  obtain⟨zs,l,bd,bG⟩:=NF xs p g bj al ak k4 (xs.length-(i+1)) (i+1) xs (by omega) rfl rfl (by rw[e1,e2]);rw[e1,e2]at l;have bS:(xs.filter fun a=>!p a).length<xs.length:=by
   grind[Ep,hs,pT,List.length_drop]
  generalize xs.filter (fun a=>!p a)=eS at*;refine apC (azL ⟨lx,AS.2 (by omega),⟨by omega,by omega⟩,l,by simp,by simp;omega,dz _ Cell.flat _,by simp,by simp,by simp;omega,aa⟩) ?_;simp only[lL,kU,Nat.sub_zero,yB,<-qJ];grind
def gF(k:Int):Bool:=k==5||k==6||k==8
def h7(xs:List Cell)(x:Cell):List Cell×Bool:=
 if (px xs x.op x.a8 x.key).2&&decide ((px xs x.op x.a8 x.key).1<=x.val) then (xs,false) else (kq (xs.filter fun a=>!eT x a) x,true)
def cA(kind:Int)(xs:List Cell)(x:Cell):List Cell×Bool:=
 if kind=6 then (if nK xs x then (xs,false) else (kq xs x,true))
 else if kind=5\/kind=8 then h7 xs x
 else (xs,true)
theorem W3(k:Int):aq 268 [.one (I k)] [.one (B (gF k))]:=by
 rcases cR (k==5) with h1 | h1
 ·skip
  rw[show gF k=true from by grind[gF]];exact aBe ⟨h1,aa⟩
 skip
 rcases cR (k==6) with U | U
 ·skip
  rw[show gF k=true from by grind[gF]];exact aBf ⟨h1,U,aa⟩
 skip
 rw[show gF k=(k==8) from by grind[gF]];exact aBg ⟨h1,U,aa⟩
theorem W4(xs:List Cell)(x:Cell)(al:xs.length<=8388608):aq 318 [.one (.J 4 (xs.map Cell.e)),.agg x.e] [.one (.J 4 ((h7 xs x).1.map Cell.e)),.one (B (h7 xs x).2)]:=by
 have c:=alQ xs x.op x.a8 x.key al;have cF:=vN xs al;have d:=apD xs (eT x) 346 [D.ptr x.e] al (by kernel_rfl) (fun y _=>azG ⟨Vi x y,aa⟩);have Si:=VS (xs.filter fun a=>!eT x a) x (mF (pT ..) al);unfold h7;generalize px xs x.op x.a8 x.key=m at*;obtain⟨v,f⟩:=m;cases f with
 | false=>exact azk ⟨c,rfl,cF,d,Si,aa⟩
 | true=>
  by_cases h:v<=x.val
  ·rw[dh h];exact azi ⟨c,rfl,dh h,cF,aa⟩
  rw[ea h];exact azj ⟨c,rfl,ea h,cF,d,Si,aa⟩
theorem apE(xs acc:List Cell)(x:Cell)(al:xs.length<=8388608)(i:Nat)(ak:acc.length<=i)(a:Cell)(ai:xs[i]?=some a):fX prog (ap f269 0) (mA (xs.map Cell.e) x.op x.a8 x.key x.val i (acc.map Cell.e)) .normal (mA (xs.map Cell.e) x.op x.a8 x.key x.val ((i+1:Nat):Int) ((acc++(bif eT x a then [] else [a])).map Cell.e)):=by
 have bk:=a1 ai;have dF:xs[(i:Int).toNat]?=some a:=by grind
 have eE:decide ((i:Int)<(↑(xs.map Cell.e).length:Int))=true:=b5 bk;rcases cR (a.op != x.op) with h1 | h1
 ·skip
  have ao:eT x a=false:=by grind[eT]
  rw[ao];rw[show (acc++(bif false then [] else [a])).map Cell.e=acc.map Cell.e++[a.e] from by simp];exact aAu ⟨eE,(by grind),(by grind),(bQ Cell.e dF),h1,(by grind),(by grind),(bQ Cell.e dF),(by grind),(by grind),(by grind[ct,gQ,et,fE]),(by first | omega | (simp only[ct,gQ,et];omega) | exact fE a.flat | (exact⟨by omega,by omega⟩)),aa⟩
 skip
 rcases cR (a.a8 != x.a8) with U | U
 ·skip
  have ao:eT x a=false:=by grind[eT]
  rw[ao];rw[show (acc++(bif false then [] else [a])).map Cell.e=acc.map Cell.e++[a.e] from by simp];exact aAv ⟨eE,(by grind),(by grind),(bQ Cell.e dF),h1,(by grind),(by grind),(bQ Cell.e dF),U,(by grind),(by grind),(bQ Cell.e dF),(by grind),(by grind),(by grind[ct,gQ,et,fE]),(by first | omega | (simp only[ct,gQ,et];omega) | exact fE a.flat | (exact⟨by omega,by omega⟩)),aa⟩
 skip
 rcases cR (a.key != x.key) with aA | aA
 ·skip
  have ao:eT x a=false:=by grind[eT]
  rw[ao];rw[show (acc++(bif false then [] else [a])).map Cell.e=acc.map Cell.e++[a.e] from by simp];exact aAw ⟨eE,(by grind),(by grind),(bQ Cell.e dF),h1,(by grind),(by grind),(bQ Cell.e dF),U,(by grind),(by grind),(bQ Cell.e dF),aA,(by grind),(by grind),(bQ Cell.e dF),(by grind),(by grind),(by grind[ct,gQ,et,fE]),(by first | omega | (simp only[ct,gQ,et];omega) | exact fE a.flat | (exact⟨by omega,by omega⟩)),aa⟩
 skip
 have ao:eT x a=true:=by grind[eT]
 rw[ao];rw[show (acc++(bif true then [] else [a])).map Cell.e=acc.map Cell.e from by simp];exact aAx ⟨eE,(by grind),(by grind),(bQ Cell.e dF),h1,(by grind),(by grind),(bQ Cell.e dF),U,(by grind),(by grind),(bQ Cell.e dF),aA,(by first | omega | (simp only[ct,gQ,et];omega) | exact fE a.flat | (exact⟨by omega,by omega⟩)),aa⟩
theorem apF(p:Cell->Bool){xs:List Cell}{i:Nat}{a:Cell}(h:xs[i]?=some a):(xs.take (i+1)).filter (fun b=>!p b)=(xs.take i).filter (fun b=>!p b)++(bif p a then [] else [a]):=by
 rw[Ag _ h];grind
theorem GY(xs:List Cell)(x:Cell)(al:xs.length<=8388608):c8 prog (ap f269 0) (mA (xs.map Cell.e) x.op x.a8 x.key x.val 0 []) (.exit 1) (Al x.op x.a8 x.key x.val ((xs.filter fun a=>!eT x a).map Cell.e)):=by
 have l:=dY (P:=prog) (c:=(ap f269 0)) (cn 1) xs.length (fun i:Nat=>mA (xs.map Cell.e) x.op x.a8 x.key x.val i (((xs.take i).filter fun a=>!eT x a).map Cell.e)) (fun i hi=>by
  obtain⟨a,ai⟩:=c4 hi;rw[apF (eT x) ai];grind[apE,Hf]) (aAy ⟨dw,aa⟩)
 grind
theorem W5(kind:Int)(xs:List Cell)(x:Cell)(al:xs.length<=8388608):aq 269 [.one (I kind),.one (.J 4 (xs.map Cell.e)),.agg x.e] [.one (.J 4 (((cA kind xs x).1).map Cell.e)),.one (B ((cA kind xs x).2))]:=by
 have bF:=pT (fun a=>!eT x a) xs;rcases cR (kind==6) with h1 | h1
 ·skip
  have c2:=Uo xs x (by omega);rcases cR (nK xs x) with aA | aA
  ·skip
   rw[show cA kind xs x=(xs,false) from by grind[cA,h7]];exact aBh ⟨(by grind),(by grind),(by grind[ct,et,dz,Cell.flat,aL]),h1,c2,aA,aa⟩
  skip
  have eD:=Dk xs x (by omega);rw[show cA kind xs x=((kq xs x),true) from by grind[cA,h7]];exact aAs ⟨(by grind),(by grind),(by grind[ct,et,dz,Cell.flat,aL]),h1,c2,aA,eD,aa⟩
 skip
 rcases cR (kind==5) with a' | a'
 ·skip
  have hX:=Vj xs x.op x.a8 x.key (by omega);rcases cR ((px xs x.op x.a8 x.key).2) with b1 | b1
  ·skip
   rcases cR (decide (((px xs x.op x.a8 x.key).1)<=x.val)) with dy | dy
   ·skip
    rw[show cA kind xs x=(xs,false) from by grind[cA,h7]];exact aAt ⟨(by grind),(by grind),(by grind[ct,et,dz,Cell.flat,aL]),h1,a',a',hX,b1,dy,aa⟩
   skip
   
   have abz:=Dk (xs.filter fun a=>!eT x a) x (by omega);rw[show cA kind xs x=((kq (xs.filter fun a=>!eT x a) x),true) from by grind[cA,h7]];exact aAz ⟨(by grind),(by grind),(by grind[ct,et,dz,Cell.flat,aL]),h1,a',a',hX,b1,dy,(GY xs x al),abz,aa⟩
  skip
  
  have yO:=Dk (xs.filter fun a=>!eT x a) x (by omega);rw[show cA kind xs x=((kq (xs.filter fun a=>!eT x a) x),true) from by grind[cA,h7]];exact aAA ⟨(by grind),(by grind),(by grind[ct,et,dz,Cell.flat,aL]),h1,a',a',hX,b1,(GY xs x al),yO,aa⟩
 skip
 rcases cR (kind==8) with iH | iH
 ·skip
  have oT:=Vj xs x.op x.a8 x.key (by omega);rcases cR ((px xs x.op x.a8 x.key).2) with uX | uX
  ·skip
   rcases cR (decide (((px xs x.op x.a8 x.key).1)<=x.val)) with l' | l'
   ·skip
    rw[show cA kind xs x=(xs,false) from by grind[cA,h7]];exact aAB ⟨(by grind),(by grind),(by grind[ct,et,dz,Cell.flat,aL]),h1,a',iH,oT,uX,l',aa⟩
   skip
   
   have abx:=Dk (xs.filter fun a=>!eT x a) x (by omega);rw[show cA kind xs x=((kq (xs.filter fun a=>!eT x a) x),true) from by grind[cA,h7]];exact aAC ⟨(by grind),(by grind),(by grind[ct,et,dz,Cell.flat,aL]),h1,a',iH,oT,uX,l',(GY xs x al),abx,aa⟩
  skip
  
  have EI:=Dk (xs.filter fun a=>!eT x a) x (by omega);rw[show cA kind xs x=((kq (xs.filter fun a=>!eT x a) x),true) from by grind[cA,h7]];exact aAD ⟨(by grind),(by grind),(by grind[ct,et,dz,Cell.flat,aL]),h1,a',iH,oT,uX,(GY xs x al),EI,aa⟩
 skip
 rw[show cA kind xs x=(xs,true) from by grind[cA,h7]];exact aAE ⟨(by grind),(by grind),(by grind[ct,et,dz,Cell.flat,aL]),h1,a',iH,aa⟩
theorem W6(kind:Int)(xs:List Cell)(x:Cell)(al:xs.length<=8388608):aq 299 [.one (I kind),.one (.J 4 (xs.map Cell.e)),.agg x.e] [.one (.J 4 (((cA kind xs x).1).map Cell.e)),.one (B ((cA kind xs x).2))]:=by
 rcases cR (kind==5) with h1 | h1
 ·skip
  have c2:=W4 xs x (by omega);rw[show cA kind xs x=(((h7 xs x).1),(h7 xs x).2) from by grind[cA,h7,kq]];exact azl ⟨h1,h1,c2,aa⟩
 skip
 rcases cR (kind==8) with aA | aA
 ·skip
  have eD:=W4 xs x (by omega);rw[show cA kind xs x=(((h7 xs x).1),(h7 xs x).2) from by grind[cA,h7,kq]];exact azm ⟨h1,aA,eD,aa⟩
 skip
 rcases cR (kind==6) with a' | a'
 ·skip
  have hX:=VS xs x (by omega);have I6:=VQ xs x (by omega);rw[show cA kind xs x=((kq xs x),!(nK xs x)) from by grind[cA,h7,kq]];exact azn ⟨h1,aA,a',hX,I6,aa⟩
 skip
 have nr:=vN xs (by omega);rw[show cA kind xs x=(xs,true) from by grind[cA,h7,kq]];exact azo ⟨h1,aA,a',nr,aa⟩
def fq(x:Node)(s:gC)(key val:Int):List az:=x.outs.map fun k=>⟨k,s,key,val⟩
def cellOf(r:az):Cell:=⟨r.op,r.bi.a8,r.key,r.val⟩
def dU(g:bV)(cs:List Cell)(r:az)(x:Node):List Cell×List az×Bool:=
 if eh g&&eJ r then
  if !(cI x r.key r.val).2.2&&x.kind != 8 then (cs,[],true)
  else if !(cA x.kind cs ⟨r.op,r.bi.a8,r.key,r.val⟩).2 then ((cA x.kind cs ⟨r.op,r.bi.a8,r.key,r.val⟩).1,[],true)
  else if x.kind=7 then
   ((cA x.kind cs ⟨r.op,r.bi.a8,r.key,r.val⟩).1,(bif (e9 r.bi).2 then fq x (e9 r.bi).1 (cI x r.key r.val).1 (cI x r.key r.val).2.1 else []),true)
  else ((cA x.kind cs ⟨r.op,r.bi.a8,r.key,r.val⟩).1,fq x r.bi (cI x r.key r.val).1 (cI x r.key r.val).2.1,true)
 else (cs,[],false)
theorem zP(x:Node)(s:gC)(key val:Int){i:Nat}{k:Int}(h:x.outs[i]?=some k):(((x.outs.take (i+1)).map fun k=>(⟨k,s,key,val⟩:az)).map az.e)=(((x.outs.take i).map fun k=>(⟨k,s,key,val⟩:az)).map az.e)++[(⟨k,s,key,val⟩:az).e]:=by
 simp[qH,h]
theorem W7(x:Node)(af:x.outs.length<=8388608)(s:gC)(key val:Int)(jA:List (List D)):c8 prog (ap f176 0) (yi x.kind x.a x.b (x.outs.map bc) key val jA s.a8 s.dg 0 []) (.exit 0) (vX jA ((fq x s key val).map az.e)):=by
 have l:=dY (P:=prog) (c:=(ap f176 0)) (cn 0) x.outs.length (fun i:Nat=>yi x.kind x.a x.b (x.outs.map bc) key val jA s.a8 s.dg i (((x.outs.take i).map fun k=>(⟨k,s,key,val⟩:az)).map az.e)) (fun i hi=>by
  obtain⟨k,hk⟩:=c4 hi;rw[zP x s key val hk];exact aoZ ⟨b5 hi,bA,bH hi,bC bc hk,by simp;omega,by simp;omega,fE (az.flat ⟨k,s,key,val⟩),db hi af,aa⟩) (aoq ⟨dw,aa⟩)
 rw[kS]at l;exact l
theorem W8(x:Node)(af:x.outs.length<=8388608)(s:gC)(key val:Int)(jA:List (List D)):c8 prog (ap f176 0) (yj s.a8 s.dg x.kind x.a x.b (x.outs.map bc) key val jA 0 []) (.exit 0) (vX jA ((fq x s key val).map az.e)):=by
 have l:=dY (P:=prog) (c:=(ap f176 0)) (cn 0) x.outs.length (fun i:Nat=>yj s.a8 s.dg x.kind x.a x.b (x.outs.map bc) key val jA i (((x.outs.take i).map fun k=>(⟨k,s,key,val⟩:az)).map az.e)) (fun i hi=>by
  obtain⟨k,hk⟩:=c4 hi;rw[zP x s key val hk];exact aos ⟨b5 hi,bA,bH hi,bC bc hk,by simp;omega,by simp;omega,fE (az.flat ⟨k,s,key,val⟩),db hi af,aa⟩) (aot ⟨dw,aa⟩)
 rw[kS]at l;exact l
theorem W9(x:Node)(af:x.outs.length<=8388608)(s:gC)(key val:Int)(jA:List (List D)):c8 prog (ap f176 0) (yk jA x.kind x.a x.b (x.outs.map bc) key val s.a8 s.dg 0 []) (.exit 0) (vY jA ((fq x s key val).map az.e)):=by
 have l:=dY (P:=prog) (c:=(ap f176 0)) (cn 0) x.outs.length (fun i:Nat=>yk jA x.kind x.a x.b (x.outs.map bc) key val s.a8 s.dg i (((x.outs.take i).map fun k=>(⟨k,s,key,val⟩:az)).map az.e)) (fun i hi=>by
  obtain⟨k,hk⟩:=c4 hi;rw[zP x s key val hk];exact aow ⟨b5 hi,bA,bH hi,bC bc hk,by simp;omega,by simp;omega,fE (az.flat ⟨k,s,key,val⟩),db hi af,aa⟩) (aox ⟨dw,aa⟩)
 rw[kS]at l;exact l
theorem W'(x:Node)(af:x.outs.length<=8388608)(s:gC)(key val:Int)(jA:List (List D)):c8 prog (ap f176 0) (yl jA s.a8 s.dg x.kind x.a x.b (x.outs.map bc) key val 0 []) (.exit 0) (vY jA ((fq x s key val).map az.e)):=by
 have l:=dY (P:=prog) (c:=(ap f176 0)) (cn 0) x.outs.length (fun i:Nat=>yl jA s.a8 s.dg x.kind x.a x.b (x.outs.map bc) key val i (((x.outs.take i).map fun k=>(⟨k,s,key,val⟩:az)).map az.e)) (fun i hi=>by
  obtain⟨k,hk⟩:=c4 hi;rw[zP x s key val hk];exact aoz ⟨b5 hi,bA,bH hi,bC bc hk,by simp;omega,by simp;omega,fE (az.flat ⟨k,s,key,val⟩),db hi af,aa⟩) (ap1 ⟨dw,aa⟩)
 rw[kS]at l;exact l
theorem Xa(x:Node)(af:x.outs.length<=8388608)(s:gC)(key val:Int)(jA:List (List D)):c8 prog (ap f232 0) (xD s.a8 s.dg (x.outs.map bc) key val jA 0 []) (.exit 0) (vZ jA ((fq x s key val).map az.e)):=by
 have l:=dY (P:=prog) (c:=(ap f232 0)) (cn 0) x.outs.length (fun i:Nat=>xD s.a8 s.dg (x.outs.map bc) key val jA i (((x.outs.take i).map fun k=>(⟨k,s,key,val⟩:az)).map az.e)) (fun i hi=>by
  obtain⟨k,hk⟩:=c4 hi;rw[zP x s key val hk];exact aqg ⟨b5 hi,bA,bH hi,bC bc hk,rfl,by simp;omega,by simp;omega,fE (az.flat ⟨k,s,key,val⟩),db hi af,aa⟩) (aqh ⟨dw,aa⟩)
 rw[kS]at l;exact l
theorem Xb(x:Node)(af:x.outs.length<=8388608)(b:Bool)(s:gC)(key val:Int)(jA:List (List D)):c8 prog (ap f232 0) (s3 (x.outs.map bc) key val jA s.a8 s.dg b 0 []) (.exit 0) (vZ jA ((bif b then fq x s key val else []).map az.e)):=by
 cases b with
 | true=>
  have l:=dY (P:=prog) (c:=(ap f232 0)) (cn 0) x.outs.length (fun i:Nat=>s3 (x.outs.map bc) key val jA s.a8 s.dg true i (((x.outs.take i).map fun k=>(⟨k,s,key,val⟩:az)).map az.e)) (fun i hi=>by
   obtain⟨k,hk⟩:=c4 hi;rw[zP x s key val hk];exact aqd ⟨b5 hi,bA,bH hi,bC bc hk,rfl,by simp;omega,by simp;omega,fE (az.flat ⟨k,s,key,val⟩),db hi af,aa⟩) (W2 ⟨dw,aa⟩)
  rw[kS]at l;exact l
 | false=>
  exact dY (P:=prog) (c:=(ap f232 0)) (cn 0) x.outs.length (fun i:Nat=>s3 (x.outs.map bc) key val jA s.a8 s.dg false i []) (fun i hi=>by
   obtain⟨k,hk⟩:=c4 hi;exact aqe ⟨b5 hi,bA,bH hi,bC bc hk,rfl,db hi af,aa⟩) (W2 ⟨dw,aa⟩)
theorem apG(g:bV)(cs:List Cell)(r:az)(x:Node)(ax:g.sz<=8388608)(al:cs.length<=8388608)(aZ:fS g r.op=some x):aq 176 [.agg g.e,.one (.J 4 (cs.map Cell.e)),.agg r.e] [.one (.J 4 ((dU g cs r x).1.map Cell.e)),.one (.J 5 ((dU g cs r x).2.1.map az.e)),.one (B (dU g cs r x).2.2)]:=by
 have af:=bV.Cd ax (NM aZ);obtain⟨og,tH,_,_⟩:=Hk aZ;have dF:g.nodes[r.op.toNat]?=some x:=by simp_all[fS,bn]
 have c1:=Hm g r.op (x,true) (by grind[vO]) ax;have c2:=Az g ax;rcases cR (eh g) with aA | aA
 ·skip
  have eD:=uj r;rcases cR (eJ r) with a' | a'
  ·skip
   have hX:=alM x r.key r.val af;rcases cR ((cI x r.key r.val).2.2) with b1 | b1
   ·skip
    have nr:=W3 x.kind;rcases cR (gF x.kind) with eu | eu
    ·skip
     have yO:=W5 x.kind cs (⟨r.op,r.bi.a8,r.key,r.val⟩:Cell) (by omega);rcases cR ((cA x.kind cs (⟨r.op,r.bi.a8,r.key,r.val⟩:Cell)).2) with iH | iH
     ·skip
      rcases cR (x.kind==7) with iW | iW
      ·skip
       have nX:=Ay r.bi;rcases cR ((e9 r.bi).2) with l' | l'
       ·skip
        
        rw[show dU g cs r x=(((cA x.kind cs (⟨r.op,r.bi.a8,r.key,r.val⟩:Cell)).1),(fq x ((e9 r.bi).1) ((cI x r.key r.val).1) ((cI x r.key r.val).2.1)),true) from by grind[dU,gF,cA]];exact ap5 ⟨(by grind),(by grind),(by grind[ct,et,dz,Cell.flat,aL]),c1,rfl,c2,(by rw[aA];rfl),eD,(by rw[a'];rfl),hX,(by rw[b1];rfl),nr,eu,yO,(by rw[iH];rfl),iW,nX,(by rw[l'];rfl),(W7 x af ((e9 r.bi).1) ((cI x r.key r.val).1) ((cI x r.key r.val).2.1) _),aa⟩
       skip
       rw[show dU g cs r x=(((cA x.kind cs (⟨r.op,r.bi.a8,r.key,r.val⟩:Cell)).1),([]:List az),true) from by grind[dU,gF,cA]];exact ap4 ⟨(by grind),(by grind),(by grind[ct,et,dz,Cell.flat,aL]),c1,rfl,c2,(by rw[aA];rfl),eD,(by rw[a'];rfl),hX,(by rw[b1];rfl),nr,eu,yO,(by rw[iH];rfl),iW,nX,(by rw[l'];rfl),aa⟩
      skip
      
      rw[show dU g cs r x=(((cA x.kind cs (⟨r.op,r.bi.a8,r.key,r.val⟩:Cell)).1),(fq x r.bi ((cI x r.key r.val).1) ((cI x r.key r.val).2.1)),true) from by grind[dU,gF,cA]];exact ap6 ⟨(by grind),(by grind),(by grind[ct,et,dz,Cell.flat,aL]),c1,rfl,c2,(by rw[aA];rfl),eD,(by rw[a'];rfl),hX,(by rw[b1];rfl),nr,eu,yO,(by rw[iH];rfl),iW,(W8 x af r.bi ((cI x r.key r.val).1) ((cI x r.key r.val).2.1) _),aa⟩
     skip
     rw[show dU g cs r x=(((cA x.kind cs (⟨r.op,r.bi.a8,r.key,r.val⟩:Cell)).1),([]:List az),true) from by grind[dU,gF,cA]];exact ap3 ⟨(by grind),(by grind),(by grind[ct,et,dz,Cell.flat,aL]),c1,rfl,c2,(by rw[aA];rfl),eD,(by rw[a'];rfl),hX,(by rw[b1];rfl),nr,eu,yO,(by rw[iH];rfl),aa⟩
    skip
    rcases cR (x.kind==7) with kh | kh
    ·skip
     have EI:=Ay r.bi;rcases cR ((e9 r.bi).2) with sb | sb
     ·skip
      
      rw[show dU g cs r x=(cs,(fq x ((e9 r.bi).1) ((cI x r.key r.val).1) ((cI x r.key r.val).2.1)),true) from by grind[dU,gF,cA]];exact ap8 ⟨(by grind),(by grind),(by grind[ct,et,dz,Cell.flat,aL]),c1,rfl,c2,(by rw[aA];rfl),eD,(by rw[a'];rfl),hX,(by rw[b1];rfl),nr,eu,kh,EI,(by rw[sb];rfl),(W9 x af ((e9 r.bi).1) ((cI x r.key r.val).1) ((cI x r.key r.val).2.1) _),aa⟩
     skip
     rw[show dU g cs r x=(cs,([]:List az),true) from by grind[dU,gF,cA]];exact ap7 ⟨(by grind),(by grind),(by grind[ct,et,dz,Cell.flat,aL]),c1,rfl,c2,(by rw[aA];rfl),eD,(by rw[a'];rfl),hX,(by rw[b1];rfl),nr,eu,kh,EI,(by rw[sb];rfl),aa⟩
    skip
    
    rw[show dU g cs r x=(cs,(fq x r.bi ((cI x r.key r.val).1) ((cI x r.key r.val).2.1)),true) from by grind[dU,gF,cA]];exact ap9 ⟨(by grind),(by grind),(by grind[ct,et,dz,Cell.flat,aL]),c1,rfl,c2,(by rw[aA];rfl),eD,(by rw[a'];rfl),hX,(by rw[b1];rfl),nr,eu,kh,(W' x af r.bi ((cI x r.key r.val).1) ((cI x r.key r.val).2.1) _),aa⟩
   skip
   rcases cR (x.kind != 8) with hG | hG
   ·skip
    rw[show dU g cs r x=(cs,([]:List az),true) from by grind[dU,gF,cA]];exact aoW ⟨(by grind),(by grind),(by grind[ct,et,dz,Cell.flat,aL]),c1,rfl,c2,(by rw[aA];rfl),eD,(by rw[a'];rfl),hX,(by rw[b1];rfl),hG,aa⟩
   skip
   have jN:=W3 x.kind;rcases cR (gF x.kind) with fv | fv
   ·skip
    have nY:=W5 x.kind cs (⟨r.op,r.bi.a8,r.key,r.val⟩:Cell) (by omega);rcases cR ((cA x.kind cs (⟨r.op,r.bi.a8,r.key,r.val⟩:Cell)).2) with ma | ma
    ·skip
     rcases cR (x.kind==7) with kC | kC
     ·skip
      have QN:=Ay r.bi;rcases cR ((e9 r.bi).2) with qT | qT
      ·skip
       
       rw[show dU g cs r x=(((cA x.kind cs (⟨r.op,r.bi.a8,r.key,r.val⟩:Cell)).1),(fq x ((e9 r.bi).1) ((cI x r.key r.val).1) ((cI x r.key r.val).2.1)),true) from by grind[dU,gF,cA]];exact aor ⟨(by first | omega | (simp only[ct,et];omega) | exact dz _ Cell.flat _ | grind[aL]),(by first | omega | (simp only[ct,et];omega) | exact dz _ Cell.flat _ | grind[aL]),(by first | omega | (simp only[ct,et];omega) | exact dz _ Cell.flat _ | grind[aL]),c1,rfl,c2,(by rw[aA];rfl),eD,(by rw[a'];rfl),hX,(by rw[b1];rfl),hG,jN,fv,nY,(by rw[ma];rfl),kC,QN,(by rw[qT];rfl),(W7 x af ((e9 r.bi).1) ((cI x r.key r.val).1) ((cI x r.key r.val).2.1) _),aa⟩
      skip
      rw[show dU g cs r x=(((cA x.kind cs (⟨r.op,r.bi.a8,r.key,r.val⟩:Cell)).1),([]:List az),true) from by grind[dU,gF,cA]];exact aoY ⟨(by first | omega | (simp only[ct,et];omega) | exact dz _ Cell.flat _ | grind[aL]),(by first | omega | (simp only[ct,et];omega) | exact dz _ Cell.flat _ | grind[aL]),(by first | omega | (simp only[ct,et];omega) | exact dz _ Cell.flat _ | grind[aL]),c1,rfl,c2,(by rw[aA];rfl),eD,(by rw[a'];rfl),hX,(by rw[b1];rfl),hG,jN,fv,nY,(by rw[ma];rfl),kC,QN,(by rw[qT];rfl),aa⟩
     skip
     
     rw[show dU g cs r x=(((cA x.kind cs (⟨r.op,r.bi.a8,r.key,r.val⟩:Cell)).1),(fq x r.bi ((cI x r.key r.val).1) ((cI x r.key r.val).2.1)),true) from by grind[dU,gF,cA]];exact aou ⟨(by grind),(by grind),(by grind[ct,et,dz,Cell.flat,aL]),c1,rfl,c2,(by rw[aA];rfl),eD,(by rw[a'];rfl),hX,(by rw[b1];rfl),hG,jN,fv,nY,(by rw[ma];rfl),kC,(W8 x af r.bi ((cI x r.key r.val).1) ((cI x r.key r.val).2.1) _),aa⟩
    skip
    rw[show dU g cs r x=(((cA x.kind cs (⟨r.op,r.bi.a8,r.key,r.val⟩:Cell)).1),([]:List az),true) from by grind[dU,gF,cA]];exact aoX ⟨(by grind),(by grind),(by grind[ct,et,dz,Cell.flat,aL]),c1,rfl,c2,(by rw[aA];rfl),eD,(by rw[a'];rfl),hX,(by rw[b1];rfl),hG,jN,fv,nY,(by rw[ma];rfl),aa⟩
   skip
   rcases cR (x.kind==7) with qU | qU
   ·skip
    have QO:=Ay r.bi;rcases cR ((e9 r.bi).2) with oV | oV
    ·skip
     
     rw[show dU g cs r x=(cs,(fq x ((e9 r.bi).1) ((cI x r.key r.val).1) ((cI x r.key r.val).2.1)),true) from by grind[dU,gF,cA]];exact aoy ⟨(by first | omega | (simp only[ct,et];omega) | exact dz _ Cell.flat _ | grind[aL]),(by first | omega | (simp only[ct,et];omega) | exact dz _ Cell.flat _ | grind[aL]),(by first | omega | (simp only[ct,et];omega) | exact dz _ Cell.flat _ | grind[aL]),c1,rfl,c2,(by rw[aA];rfl),eD,(by rw[a'];rfl),hX,(by rw[b1];rfl),hG,jN,fv,qU,QO,(by rw[oV];rfl),(W9 x af ((e9 r.bi).1) ((cI x r.key r.val).1) ((cI x r.key r.val).2.1) _),aa⟩
    skip
    rw[show dU g cs r x=(cs,([]:List az),true) from by grind[dU,gF,cA]];exact aov ⟨(by first | omega | (simp only[ct,et];omega) | exact dz _ Cell.flat _ | grind[aL]),(by first | omega | (simp only[ct,et];omega) | exact dz _ Cell.flat _ | grind[aL]),(by first | omega | (simp only[ct,et];omega) | exact dz _ Cell.flat _ | grind[aL]),c1,rfl,c2,(by rw[aA];rfl),eD,(by rw[a'];rfl),hX,(by rw[b1];rfl),hG,jN,fv,qU,QO,(by rw[oV];rfl),aa⟩
   skip
   
   rw[show dU g cs r x=(cs,(fq x r.bi ((cI x r.key r.val).1) ((cI x r.key r.val).2.1)),true) from by grind[dU,gF,cA]];exact ap2 ⟨(by grind),(by grind),(by grind[ct,et,dz,Cell.flat,aL]),c1,rfl,c2,(by rw[aA];rfl),eD,(by rw[a'];rfl),hX,(by rw[b1];rfl),hG,jN,fv,qU,(W' x af r.bi ((cI x r.key r.val).1) ((cI x r.key r.val).2.1) _),aa⟩
  skip
  rw[show dU g cs r x=(cs,([]:List az),false) from by grind[dU,gF,cA]];exact aoV ⟨(by grind),(by grind),(by grind[ct,et,dz,Cell.flat,aL]),c1,rfl,c2,(by rw[aA];rfl),eD,(by rw[a'];rfl),aa⟩
 skip
 rw[show dU g cs r x=(cs,([]:List az),false) from by grind[dU,gF,cA]];exact aoU ⟨(by grind),(by grind),(by grind[ct,et,dz,Cell.flat,aL]),c1,rfl,c2,(by rw[aA];rfl),aa⟩
theorem apH(g:bV)(cs:List Cell)(r:az)(x:Node)(ax:g.sz<=8388608)(al:cs.length<=8388608)(aZ:fS g r.op=some x):aq 232 [.agg g.e,.one (.J 4 (cs.map Cell.e)),.agg r.e] [.one (.J 4 ((dU g cs r x).1.map Cell.e)),.one (.J 5 ((dU g cs r x).2.1.map az.e)),.one (B (dU g cs r x).2.2)]:=by
 have af:=bV.Cd ax (NM aZ);obtain⟨og,tH,_,_⟩:=Hk aZ;have dF:g.nodes[r.op.toNat]?=some x:=by simp_all[fS,bn]
 have c1:=AA g ax;rcases cR (eh g) with U | U
 ·skip
  have cN:=vQ r;rcases cR (eJ r) with aJ | aJ
  ·skip
   have gT:=Ao g r.op true (by rw[aZ];rfl) ax;have hX:=alN x r.key r.val af;rcases cR ((cI x r.key r.val).2.2) with b1 | b1
   ·skip
    have nr:=W6 x.kind cs (⟨r.op,r.bi.a8,r.key,r.val⟩:Cell) (by omega);rcases cR ((cA x.kind cs (⟨r.op,r.bi.a8,r.key,r.val⟩:Cell)).2) with eu | eu
    ·skip
     rcases cR (x.kind==7) with dX | dX
     ·skip
      have qP:=No r.bi
      
      rw[show dU g cs r x=(((cA x.kind cs (⟨r.op,r.bi.a8,r.key,r.val⟩:Cell)).1),(bif (e9 r.bi).2 then fq x ((e9 r.bi).1) ((cI x r.key r.val).1) ((cI x r.key r.val).2.1) else []),true) from by grind[dU,gF,cA]];exact aqk ⟨c1,(by rw[U];rfl),cN,(by rw[aJ];rfl),gT,rfl,(by grind),(by grind),(bQ Node.e dF),hX,(by rw[b1];rfl),nr,(by rw[eu];rfl),dX,qP,(Xb x af ((e9 r.bi).2) ((e9 r.bi).1) ((cI x r.key r.val).1) ((cI x r.key r.val).2.1) _),aa⟩
     skip
     
     rw[show dU g cs r x=(((cA x.kind cs (⟨r.op,r.bi.a8,r.key,r.val⟩:Cell)).1),(fq x r.bi ((cI x r.key r.val).1) ((cI x r.key r.val).2.1)),true) from by grind[dU,gF,cA]];exact aql ⟨c1,(by rw[U];rfl),cN,(by rw[aJ];rfl),gT,rfl,(by grind),(by grind),(bQ Node.e dF),hX,(by rw[b1];rfl),nr,(by rw[eu];rfl),dX,(Xa x af r.bi ((cI x r.key r.val).1) ((cI x r.key r.val).2.1) _),aa⟩
    skip
    rw[show dU g cs r x=(((cA x.kind cs (⟨r.op,r.bi.a8,r.key,r.val⟩:Cell)).1),([]:List az),true) from by grind[dU,gF,cA]];exact aqj ⟨c1,(by rw[U];rfl),cN,(by rw[aJ];rfl),gT,rfl,(by grind),(by grind),(bQ Node.e dF),hX,(by rw[b1];rfl),nr,(by rw[eu];rfl),aa⟩
   skip
   rcases cR (x.kind != 8) with iW | iW
   ·skip
    have nX:=vN cs (by omega);rw[show dU g cs r x=(cs,([]:List az),true) from by grind[dU,gF,cA]];exact aqb ⟨c1,(by rw[U];rfl),cN,(by rw[aJ];rfl),gT,rfl,(by grind),(by grind),(bQ Node.e dF),hX,(by rw[b1];rfl),iW,nX,aa⟩
   skip
   have I5:=W6 x.kind cs (⟨r.op,r.bi.a8,r.key,r.val⟩:Cell) (by omega);rcases cR ((cA x.kind cs (⟨r.op,r.bi.a8,r.key,r.val⟩:Cell)).2) with kh | kh
   ·skip
    rcases cR (x.kind==7) with cG | cG
    ·skip
     have mK:=No r.bi
     
     rw[show dU g cs r x=(((cA x.kind cs (⟨r.op,r.bi.a8,r.key,r.val⟩:Cell)).1),(bif (e9 r.bi).2 then fq x ((e9 r.bi).1) ((cI x r.key r.val).1) ((cI x r.key r.val).2.1) else []),true) from by grind[dU,gF,cA]];exact aqf ⟨c1,(by rw[U];rfl),cN,(by rw[aJ];rfl),gT,rfl,(by first | omega | (simp only[ct,et];omega) | exact dz _ Cell.flat _ | grind[aL]),(by first | omega | (simp only[ct,et];omega) | exact dz _ Cell.flat _ | grind[aL]),(bQ Node.e dF),hX,(by rw[b1];rfl),iW,I5,(by rw[kh];rfl),cG,mK,(Xb x af ((e9 r.bi).2) ((e9 r.bi).1) ((cI x r.key r.val).1) ((cI x r.key r.val).2.1) _),aa⟩
    skip
    
    rw[show dU g cs r x=(((cA x.kind cs (⟨r.op,r.bi.a8,r.key,r.val⟩:Cell)).1),(fq x r.bi ((cI x r.key r.val).1) ((cI x r.key r.val).2.1)),true) from by grind[dU,gF,cA]];exact aqi ⟨c1,(by rw[U];rfl),cN,(by rw[aJ];rfl),gT,rfl,(by grind),(by grind),(bQ Node.e dF),hX,(by rw[b1];rfl),iW,I5,(by rw[kh];rfl),cG,(Xa x af r.bi ((cI x r.key r.val).1) ((cI x r.key r.val).2.1) _),aa⟩
   skip
   rw[show dU g cs r x=(((cA x.kind cs (⟨r.op,r.bi.a8,r.key,r.val⟩:Cell)).1),([]:List az),true) from by grind[dU,gF,cA]];exact aqc ⟨c1,(by rw[U];rfl),cN,(by rw[aJ];rfl),gT,rfl,(by grind),(by grind),(bQ Node.e dF),hX,(by rw[b1];rfl),iW,I5,(by rw[kh];rfl),aa⟩
  skip
  have aby:=vN cs (by omega);rw[show dU g cs r x=(cs,([]:List az),false) from by grind[dU,gF,cA]];exact W1 ⟨c1,(by rw[U];rfl),cN,(by rw[aJ];rfl),aby,aa⟩
 skip
 have jN:=vN cs (by omega);rw[show dU g cs r x=(cs,([]:List az),false) from by grind[dU,gF,cA]];exact W0 ⟨c1,(by rw[U];rfl),jN,aa⟩
