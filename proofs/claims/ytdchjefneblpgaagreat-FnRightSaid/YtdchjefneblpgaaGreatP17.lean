import Derived.Test.YtdchjefneblpgaaGreatP16
import Derived.Test.YtdchjefneblpgaaGreatGS
set_option linter.unusedVariables false
set_option linter.unusedSimpArgs false
namespace Go.Proofs.YtdchjefneblpgaaGreat
open Go.Sx Go.RowKit Go.Proofs.Tryz
theorem ano{P:Program}{f:Nat}{args:List GA}{k:Nat}{l hb:List (List D)}(h:lk P f args [.one (.J k l)])(aj:l=hb):lk P f args [.one (.J k hb)]:=aj▸h
theorem O9(xs:List Cell)(p:Cell->Bool)(g:Nat)(bl:List D)(aj:xs.length<=8388608)(al:hV prog g=true)(hp:∀x∈xs,∀r,p x=r->av g ([.agg x.e]++bl.map .one) [.one (B r)]):
  ∀(n i:Nat) (ys:List Cell),n+i=xs.length->ys.length=xs.length->ys.drop i=xs.drop i->ys.take ((xs.take i).filter fun a=>!p a).length=(xs.take i).filter (fun a=>!p a)->
  ∃zs:List Cell,cN prog (ap f345 0) (wF g bl i ((xs.take i).filter fun a=>!p a).length (ys.map Cell.e)) (.exit 0) (Ow (zs.map Cell.e) (xs.filter fun a=>!p a).length)/\zs.length=xs.length/\zs.take (xs.filter fun a=>!p a).length=xs.filter (fun a=>!p a)
 | 0,i,ys,hi,bk,_,bG=>by
  have e:xs.take i=xs:=wV (by omega);rw[e]at bG ⊢;exact⟨ys,.last (ci 0) (aAp ⟨dE (by simp;omega),ad⟩),bk,bG⟩
 | n+1,i,ys,hi,bk,aF,bG=>by
  obtain⟨a,ae⟩:=cV (xs:=xs) (i:=i) (by omega);have Cw:ys[i]?=some a:=by
   have e1:ys[i]?=(ys.drop i)[0]?:=by simp
   grind
  have br:=pM (fun a=>!p a) ae;have hle:=s0 (fun a=>!p a) xs i;have pq:ys.drop (i+1)=xs.drop (i+1):=by
   have:=congrArg (List.drop 1) aF;grind[List.drop_drop,Nat.add_comm]
  cases h:p a with
  | true=>
   rw[h]at br;simp only[jg,oh,mr,gR]at br;obtain⟨zs,h1,U,aA⟩:=O9 xs p g bl aj al hp n (i+1) ys (by omega) bk pq (by grind);rw[br]at h1;exact⟨zs,.more (aAo ⟨dc (by simp;omega),bx,by simp;omega,bw Cell.e Cw,al,hp a (cB ae) true h,rfl,⟨by omega,by omega⟩,ad⟩) h1,U,aA⟩
  | false=>
   rw[h]at br;simp only[o6,fU]at br;generalize a8:((xs.take i).filter fun a=>!p a).length=j at*;obtain⟨b,aq⟩:=cV (xs:=ys) (i:=j) (by omega);obtain⟨zs,h1,U,aA⟩:=O9 xs p g bl aj al hp n (i+1) (ys.set j a) (by omega) (by grind) (by grind[List.drop_set_of_lt]) (by
    rw[br,lH,a8,List.length_singleton,List.take_set,<-bG];have kY:j<ys.length:=by omega
    simp_all[List.take_succ_eq_append_getElem,List.set_append_right,u7,Nat.min_eq_left,Nat.le_of_lt])
   rw[br,lH,a8,List.length_singleton]at h1;refine⟨zs,.more (u0 (fun l=>wF g bl ((i+1:Nat):Int) ((j+1:Nat):Int) l) (aBd ⟨dc (by simp;omega),bx,by simp;omega,bw Cell.e Cw,al,hp a (cB ae) false h,rfl,bx,by simp;omega,bw Cell.e aq,⟨by omega,by omega⟩,⟨by omega,by omega⟩,ad⟩) ?_) h1,U,aA⟩;show List.set _ _ a.e=_;simp_all
theorem anp(xs:List Cell)(p:Cell->Bool)(g:Nat)(bl:List D)(aj:xs.length<=8388608)(al:hV prog g=true)(hp:∀x∈xs,av g ([.agg x.e]++bl.map .one) [.one (B (p x))]):
  lk prog 345 [.one (.fh 4 (xs.map Cell.e) none),.one (.ro (.cl g bl))] [.one (.J 4 ((xs.filter fun a=>!p a).map Cell.e))]:=by
 have mE:∀x∈xs,∀r,p x=r->av g ([.agg x.e]++bl.map .one) [.one (B r)]:=fun x aa r h=>h▸hp x aa
 have lQ:=afz xs p g bl aj al hp;unfold nq at lQ;cases h:xs.findIdx? p with
 | none=>
  rw[h]at lQ;rw[Ju]at h;have e:(xs.filter fun a=>!p a)=xs:=List.filter_eq_self.2 fun a ae=>by simp[h a ae]
  rw[e];exact aBc ⟨lQ,rfl,ad⟩
 | some i=>
  rw[h]at lQ;change ji _ _ _ [.one (I (i:Int))]at lQ;rw[u6]at h;obtain⟨hi,U,aA⟩:=h;have aa:xs[i]?=some xs[i]:=jA hi;have cd:(xs.take i).filter (fun a=>!p a)=xs.take i:=List.filter_eq_self.2 fun a ae=>by
   grind[List.getElem_of_mem]
  have e1:=pM (fun a=>!p a) aa;rw[U]at e1;simp only[jg,oh,mr,gR]at e1;rw[cd]at e1;have e2:(xs.take i).length=i:=by grind
  obtain⟨zs,l,aL,bG⟩:=O9 xs p g bl aj al mE (xs.length-(i+1)) (i+1) xs (by omega) rfl rfl (by rw[e1,e2]);rw[e1,e2]at l;have bM:(xs.filter fun a=>!p a).length<xs.length:=by
   grind[E1,lH,l3,List.length_drop]
  generalize xs.filter (fun a=>!p a)=eI at*;refine ano (aAq ⟨lQ,Bs.2 (by omega),⟨by omega,by omega⟩,l,by simp,by simp;omega,dy _ Cell.flat _,by simp,by simp,by simp;omega,ad⟩) ?_;simp only[l0,mU,Nat.sub_zero,va,<-tE];grind
def gL(k:Int):Bool:=k==5||k==6||k==8
def e0(xs:List Cell)(x:Cell):List Cell×Bool:=
 if (oT xs x.op x.aU x.key).2&&decide ((oT xs x.op x.aU x.key).1<=x.val) then (xs,false) else (ie (xs.filter fun a=>!cY x a) x,true)
def cm(kind:Int)(xs:List Cell)(x:Cell):List Cell×Bool:=
 if kind=6 then (if n3 xs x then (xs,false) else (ie xs x,true))
 else if kind=5\/kind=8 then e0 xs x
 else (xs,true)
theorem VP(k:Int):av 268 [.one (I k)] [.one (B (gL k))]:=by
 rcases cR (k==5) with h1 | h1
 ·skip
  rw[show gL k=true from by grind[gL]];exact afY ⟨h1,ad⟩
 skip
 rcases cR (k==6) with U | U
 ·skip
  rw[show gL k=true from by grind[gL]];exact afZ ⟨h1,U,ad⟩
 skip
 rw[show gL k=(k==8) from by grind[gL]];exact af0 ⟨h1,U,ad⟩
theorem O'(xs:List Cell)(x:Cell)(aj:xs.length<=8388608):av 318 [.one (.J 4 (xs.map Cell.e)),.agg x.e] [.one (.J 4 ((e0 xs x).1.map Cell.e)),.one (B (e0 xs x).2)]:=by
 have c:=ai9 xs x.op x.aU x.key aj;have cK:=uL xs aj;have d:=anp xs (cY x) 346 [D.ptr x.e] aj (by kernel_rfl) (fun y _=>aBb ⟨V5 x y,ad⟩);have Tf:=NO (xs.filter fun a=>!cY x a) x (mW (l3 ..) aj);unfold e0;generalize oT xs x.op x.aU x.key=m at*;obtain⟨v,f⟩:=m;cases f with
 | false=>exact aAz ⟨c,rfl,cK,d,Tf,ad⟩
 | true=>
  by_cases h:v<=x.val
  ·rw[dc h];exact aAx ⟨c,rfl,dc h,cK,ad⟩
  rw[dE h];exact aAy ⟨c,rfl,dE h,cK,d,Tf,ad⟩
theorem anq(xs acc:List Cell)(x:Cell)(aj:xs.length<=8388608)(i:Nat)(al:acc.length<=i)(a:Cell)(ae:xs[i]?=some a):gi prog (ap f269 0) (mL (xs.map Cell.e) x.op x.aU x.key x.val i (acc.map Cell.e)) .normal (mL (xs.map Cell.e) x.op x.aU x.key x.val ((i+1:Nat):Int) ((acc++(bif cY x a then [] else [a])).map Cell.e)):=by
 have a8:=a6 ae;have dC:xs[(i:Int).toNat]?=some a:=by grind
 have eE:decide ((i:Int)<(↑(xs.map Cell.e).length:Int))=true:=bT a8;rcases cR (a.op != x.op) with h1 | h1
 ·skip
  have ai:cY x a=false:=by grind[cY]
  rw[ai];rw[show (acc++(bif false then [] else [a])).map Cell.e=acc.map Cell.e++[a.e] from by simp];exact af4 ⟨eE,(by grind),(by grind),(bL Cell.e dC),h1,(by grind),(by grind),(bL Cell.e dC),(by grind),(by grind),(by grind[cp,fO,ej,fA]),(by first | omega | (simp only[cp,fO,ej];omega) | exact fA a.flat | (exact⟨by omega,by omega⟩)),ad⟩
 skip
 rcases cR (a.aU != x.aU) with U | U
 ·skip
  have ai:cY x a=false:=by grind[cY]
  rw[ai];rw[show (acc++(bif false then [] else [a])).map Cell.e=acc.map Cell.e++[a.e] from by simp];exact aff ⟨eE,(by grind),(by grind),(bL Cell.e dC),h1,(by grind),(by grind),(bL Cell.e dC),U,(by grind),(by grind),(bL Cell.e dC),(by grind),(by grind),(by grind[cp,fO,ej,fA]),(by first | omega | (simp only[cp,fO,ej];omega) | exact fA a.flat | (exact⟨by omega,by omega⟩)),ad⟩
 skip
 rcases cR (a.key != x.key) with aA | aA
 ·skip
  have ai:cY x a=false:=by grind[cY]
  rw[ai];rw[show (acc++(bif false then [] else [a])).map Cell.e=acc.map Cell.e++[a.e] from by simp];exact afg ⟨eE,(by grind),(by grind),(bL Cell.e dC),h1,(by grind),(by grind),(bL Cell.e dC),U,(by grind),(by grind),(bL Cell.e dC),aA,(by grind),(by grind),(bL Cell.e dC),(by grind),(by grind),(by grind[cp,fO,ej,fA]),(by first | omega | (simp only[cp,fO,ej];omega) | exact fA a.flat | (exact⟨by omega,by omega⟩)),ad⟩
 skip
 have ai:cY x a=true:=by grind[cY]
 rw[ai];rw[show (acc++(bif true then [] else [a])).map Cell.e=acc.map Cell.e from by simp];exact afh ⟨eE,(by grind),(by grind),(bL Cell.e dC),h1,(by grind),(by grind),(bL Cell.e dC),U,(by grind),(by grind),(bL Cell.e dC),aA,(by first | omega | (simp only[cp,fO,ej];omega) | exact fA a.flat | (exact⟨by omega,by omega⟩)),ad⟩
theorem anr(p:Cell->Bool){xs:List Cell}{i:Nat}{a:Cell}(h:xs[i]?=some a):(xs.take (i+1)).filter (fun b=>!p b)=(xs.take i).filter (fun b=>!p b)++(bif p a then [] else [a]):=by
 rw[pM _ h];grind
theorem Ic(xs:List Cell)(x:Cell)(aj:xs.length<=8388608):cN prog (ap f269 0) (mL (xs.map Cell.e) x.op x.aU x.key x.val 0 []) (.exit 1) (Ab x.op x.aU x.key x.val ((xs.filter fun a=>!cY x a).map Cell.e)):=by
 have l:=dO (P:=prog) (c:=(ap f269 0)) (ci 1) xs.length (fun i:Nat=>mL (xs.map Cell.e) x.op x.aU x.key x.val i (((xs.take i).filter fun a=>!cY x a).map Cell.e)) (fun i hi=>by
  obtain⟨a,ae⟩:=cV hi;rw[anr (cY x) ae];grind[anq,s0]) (afi ⟨dq,ad⟩)
 grind
theorem Pb(kind:Int)(xs:List Cell)(x:Cell)(aj:xs.length<=8388608):av 269 [.one (I kind),.one (.J 4 (xs.map Cell.e)),.agg x.e] [.one (.J 4 (((cm kind xs x).1).map Cell.e)),.one (B ((cm kind xs x).2))]:=by
 have br:=l3 (fun a=>!cY x a) xs;rcases cR (kind==6) with h1 | h1
 ·skip
  have c2:=Wz xs x (by omega);rcases cR (n3 xs x) with aA | aA
  ·skip
   rw[show cm kind xs x=(xs,false) from by grind[cm,e0]];exact af1 ⟨(by grind),(by grind),(by grind[cp,ej,dy,Cell.flat,aJ]),h1,c2,aA,ad⟩
  skip
  have et:=Ad xs x (by omega);rw[show cm kind xs x=((ie xs x),true) from by grind[cm,e0]];exact af2 ⟨(by grind),(by grind),(by grind[cp,ej,dy,Cell.flat,aJ]),h1,c2,aA,et,ad⟩
 skip
 rcases cR (kind==5) with a' | a'
 ·skip
  have gH:=V6 xs x.op x.aU x.key (by omega);rcases cR ((oT xs x.op x.aU x.key).2) with bU | bU
  ·skip
   rcases cR (decide (((oT xs x.op x.aU x.key).1)<=x.val)) with cI | cI
   ·skip
    rw[show cm kind xs x=(xs,false) from by grind[cm,e0]];exact af3 ⟨(by grind),(by grind),(by grind[cp,ej,dy,Cell.flat,aJ]),h1,a',a',gH,bU,cI,ad⟩
   skip
   
   have acf:=Ad (xs.filter fun a=>!cY x a) x (by omega);rw[show cm kind xs x=((ie (xs.filter fun a=>!cY x a) x),true) from by grind[cm,e0]];exact afj ⟨(by grind),(by grind),(by grind[cp,ej,dy,Cell.flat,aJ]),h1,a',a',gH,bU,cI,(Ic xs x aj),acf,ad⟩
  skip
  
  have y9:=Ad (xs.filter fun a=>!cY x a) x (by omega);rw[show cm kind xs x=((ie (xs.filter fun a=>!cY x a) x),true) from by grind[cm,e0]];exact afk ⟨(by grind),(by grind),(by grind[cp,ej,dy,Cell.flat,aJ]),h1,a',a',gH,bU,(Ic xs x aj),y9,ad⟩
 skip
 rcases cR (kind==8) with iT | iT
 ·skip
  have pc:=V6 xs x.op x.aU x.key (by omega);rcases cR ((oT xs x.op x.aU x.key).2) with vt | vt
  ·skip
   rcases cR (decide (((oT xs x.op x.aU x.key).1)<=x.val)) with my | my
   ·skip
    rw[show cm kind xs x=(xs,false) from by grind[cm,e0]];exact afl ⟨(by grind),(by grind),(by grind[cp,ej,dy,Cell.flat,aJ]),h1,a',iT,pc,vt,my,ad⟩
   skip
   
   have acd:=Ad (xs.filter fun a=>!cY x a) x (by omega);rw[show cm kind xs x=((ie (xs.filter fun a=>!cY x a) x),true) from by grind[cm,e0]];exact afm ⟨(by grind),(by grind),(by grind[cp,ej,dy,Cell.flat,aJ]),h1,a',iT,pc,vt,my,(Ic xs x aj),acd,ad⟩
  skip
  
  have Fo:=Ad (xs.filter fun a=>!cY x a) x (by omega);rw[show cm kind xs x=((ie (xs.filter fun a=>!cY x a) x),true) from by grind[cm,e0]];exact afn ⟨(by grind),(by grind),(by grind[cp,ej,dy,Cell.flat,aJ]),h1,a',iT,pc,vt,(Ic xs x aj),Fo,ad⟩
 skip
 rw[show cm kind xs x=(xs,true) from by grind[cm,e0]];exact afo ⟨(by grind),(by grind),(by grind[cp,ej,dy,Cell.flat,aJ]),h1,a',iT,ad⟩
theorem VQ(kind:Int)(xs:List Cell)(x:Cell)(aj:xs.length<=8388608):av 299 [.one (I kind),.one (.J 4 (xs.map Cell.e)),.agg x.e] [.one (.J 4 (((cm kind xs x).1).map Cell.e)),.one (B ((cm kind xs x).2))]:=by
 rcases cR (kind==5) with h1 | h1
 ·skip
  have c2:=O' xs x (by omega);rw[show cm kind xs x=(((e0 xs x).1),(e0 xs x).2) from by grind[cm,e0,ie]];exact aAA ⟨h1,h1,c2,ad⟩
 skip
 rcases cR (kind==8) with aA | aA
 ·skip
  have et:=O' xs x (by omega);rw[show cm kind xs x=(((e0 xs x).1),(e0 xs x).2) from by grind[cm,e0,ie]];exact aAB ⟨h1,aA,et,ad⟩
 skip
 rcases cR (kind==6) with a' | a'
 ·skip
  have gH:=NO xs x (by omega);have JP:=WB xs x (by omega);rw[show cm kind xs x=((ie xs x),!(n3 xs x)) from by grind[cm,e0,ie]];exact aAC ⟨h1,aA,a',gH,JP,ad⟩
 skip
 have nQ:=uL xs (by omega);rw[show cm kind xs x=(xs,true) from by grind[cm,e0,ie]];exact aAD ⟨h1,aA,a',nQ,ad⟩
def e4(x:Node)(s:hR)(key val:Int):List ay:=x.outs.map fun k=>⟨k,s,key,val⟩
def cellOf(r:ay):Cell:=⟨r.op,r.bf.aU,r.key,r.val⟩
def dY(g:bF)(cs:List Cell)(r:ay)(x:Node):List Cell×List ay×Bool:=
 if dg g&&dM r then
  if !(b3 x r.key r.val).2.2&&x.kind != 8 then (cs,[],true)
  else if !(cm x.kind cs ⟨r.op,r.bf.aU,r.key,r.val⟩).2 then ((cm x.kind cs ⟨r.op,r.bf.aU,r.key,r.val⟩).1,[],true)
  else if x.kind=7 then
   ((cm x.kind cs ⟨r.op,r.bf.aU,r.key,r.val⟩).1,(bif (eF r.bf).2 then e4 x (eF r.bf).1 (b3 x r.key r.val).1 (b3 x r.key r.val).2.1 else []),true)
  else ((cm x.kind cs ⟨r.op,r.bf.aU,r.key,r.val⟩).1,e4 x r.bf (b3 x r.key r.val).1 (b3 x r.key r.val).2.1,true)
 else (cs,[],false)
theorem Ah(x:Node)(s:hR)(key val:Int){i:Nat}{k:Int}(h:x.outs[i]?=some k):(((x.outs.take (i+1)).map fun k=>(⟨k,s,key,val⟩:ay)).map ay.e)=(((x.outs.take i).map fun k=>(⟨k,s,key,val⟩:ay)).map ay.e)++[(⟨k,s,key,val⟩:ay).e]:=by
 simp[p6,h]
theorem Xh(x:Node)(aa:x.outs.length<=8388608)(s:hR)(key val:Int)(fX:List (List D)):cN prog (ap f176 0) (x7 x.kind x.a x.b (x.outs.map bd) key val fX s.aU s.dG 0 []) (.exit 0) (vT fX ((e4 x s key val).map ay.e)):=by
 have l:=dO (P:=prog) (c:=(ap f176 0)) (ci 0) x.outs.length (fun i:Nat=>x7 x.kind x.a x.b (x.outs.map bd) key val fX s.aU s.dG i (((x.outs.take i).map fun k=>(⟨k,s,key,val⟩:ay)).map ay.e)) (fun i hi=>by
  obtain⟨k,hk⟩:=cV hi;rw[Ah x s key val hk];exact amb ⟨bT hi,bx,bA hi,bw bd hk,by simp;omega,by simp;omega,fA (ay.flat ⟨k,s,key,val⟩),cP hi aa,ad⟩) (amc ⟨dq,ad⟩)
 rw[h6]at l;exact l
theorem Xi(x:Node)(aa:x.outs.length<=8388608)(s:hR)(key val:Int)(fX:List (List D)):cN prog (ap f176 0) (x8 s.aU s.dG x.kind x.a x.b (x.outs.map bd) key val fX 0 []) (.exit 0) (vT fX ((e4 x s key val).map ay.e)):=by
 have l:=dO (P:=prog) (c:=(ap f176 0)) (ci 0) x.outs.length (fun i:Nat=>x8 s.aU s.dG x.kind x.a x.b (x.outs.map bd) key val fX i (((x.outs.take i).map fun k=>(⟨k,s,key,val⟩:ay)).map ay.e)) (fun i hi=>by
  obtain⟨k,hk⟩:=cV hi;rw[Ah x s key val hk];exact ame ⟨bT hi,bx,bA hi,bw bd hk,by simp;omega,by simp;omega,fA (ay.flat ⟨k,s,key,val⟩),cP hi aa,ad⟩) (amf ⟨dq,ad⟩)
 rw[h6]at l;exact l
theorem Xj(x:Node)(aa:x.outs.length<=8388608)(s:hR)(key val:Int)(fX:List (List D)):cN prog (ap f176 0) (x9 fX x.kind x.a x.b (x.outs.map bd) key val s.aU s.dG 0 []) (.exit 0) (vU fX ((e4 x s key val).map ay.e)):=by
 have l:=dO (P:=prog) (c:=(ap f176 0)) (ci 0) x.outs.length (fun i:Nat=>x9 fX x.kind x.a x.b (x.outs.map bd) key val s.aU s.dG i (((x.outs.take i).map fun k=>(⟨k,s,key,val⟩:ay)).map ay.e)) (fun i hi=>by
  obtain⟨k,hk⟩:=cV hi;rw[Ah x s key val hk];exact ami ⟨bT hi,bx,bA hi,bw bd hk,by simp;omega,by simp;omega,fA (ay.flat ⟨k,s,key,val⟩),cP hi aa,ad⟩) (anM ⟨dq,ad⟩)
 rw[h6]at l;exact l
theorem Xk(x:Node)(aa:x.outs.length<=8388608)(s:hR)(key val:Int)(fX:List (List D)):cN prog (ap f176 0) (x' fX s.aU s.dG x.kind x.a x.b (x.outs.map bd) key val 0 []) (.exit 0) (vU fX ((e4 x s key val).map ay.e)):=by
 have l:=dO (P:=prog) (c:=(ap f176 0)) (ci 0) x.outs.length (fun i:Nat=>x' fX s.aU s.dG x.kind x.a x.b (x.outs.map bd) key val i (((x.outs.take i).map fun k=>(⟨k,s,key,val⟩:ay)).map ay.e)) (fun i hi=>by
  obtain⟨k,hk⟩:=cV hi;rw[Ah x s key val hk];exact anO ⟨bT hi,bx,bA hi,bw bd hk,by simp;omega,by simp;omega,fA (ay.flat ⟨k,s,key,val⟩),cP hi aa,ad⟩) (anP ⟨dq,ad⟩)
 rw[h6]at l;exact l
theorem Xl(x:Node)(aa:x.outs.length<=8388608)(s:hR)(key val:Int)(fX:List (List D)):cN prog (ap f232 0) (ya s.aU s.dG (x.outs.map bd) key val fX 0 []) (.exit 0) (vV fX ((e4 x s key val).map ay.e)):=by
 have l:=dO (P:=prog) (c:=(ap f232 0)) (ci 0) x.outs.length (fun i:Nat=>ya s.aU s.dG (x.outs.map bd) key val fX i (((x.outs.take i).map fun k=>(⟨k,s,key,val⟩:ay)).map ay.e)) (fun i hi=>by
  obtain⟨k,hk⟩:=cV hi;rw[Ah x s key val hk];exact an4 ⟨bT hi,bx,bA hi,bw bd hk,rfl,by simp;omega,by simp;omega,fA (ay.flat ⟨k,s,key,val⟩),cP hi aa,ad⟩) (an5 ⟨dq,ad⟩)
 rw[h6]at l;exact l
theorem Xm(x:Node)(aa:x.outs.length<=8388608)(b:Bool)(s:hR)(key val:Int)(fX:List (List D)):cN prog (ap f232 0) (td (x.outs.map bd) key val fX s.aU s.dG b 0 []) (.exit 0) (vV fX ((bif b then e4 x s key val else []).map ay.e)):=by
 cases b with
 | true=>
  have l:=dO (P:=prog) (c:=(ap f232 0)) (ci 0) x.outs.length (fun i:Nat=>td (x.outs.map bd) key val fX s.aU s.dG true i (((x.outs.take i).map fun k=>(⟨k,s,key,val⟩:ay)).map ay.e)) (fun i hi=>by
   obtain⟨k,hk⟩:=cV hi;rw[Ah x s key val hk];exact an1 ⟨bT hi,bx,bA hi,bw bd hk,rfl,by simp;omega,by simp;omega,fA (ay.flat ⟨k,s,key,val⟩),cP hi aa,ad⟩) (VO ⟨dq,ad⟩)
  rw[h6]at l;exact l
 | false=>
  exact dO (P:=prog) (c:=(ap f232 0)) (ci 0) x.outs.length (fun i:Nat=>td (x.outs.map bd) key val fX s.aU s.dG false i []) (fun i hi=>by
   obtain⟨k,hk⟩:=cV hi;exact an2 ⟨bT hi,bx,bA hi,bw bd hk,rfl,cP hi aa,ad⟩) (VO ⟨dq,ad⟩)
theorem ant(g:bF)(cs:List Cell)(r:ay)(x:Node)(ar:g.sz<=8388608)(aj:cs.length<=8388608)(aP:dZ g r.op=some x):av 176 [.agg g.e,.one (.J 4 (cs.map Cell.e)),.agg r.e] [.one (.J 4 ((dY g cs r x).1.map Cell.e)),.one (.J 5 ((dY g cs r x).2.1.map ay.e)),.one (B (dY g cs r x).2.2)]:=by
 have aa:=bF.xC ar (CS aP);obtain⟨oH,ru,_,_⟩:=xZ aP;have dC:g.nodes[r.op.toNat]?=some x:=by simp_all[dZ,bh]
 have c1:=wG g r.op (x,true) (by grind[qI]) ar;have c2:=CT g ar;rcases cR (dg g) with aA | aA
 ·skip
  have et:=s8 r;rcases cR (dM r) with a' | a'
  ·skip
   have gH:=V3 x r.key r.val aa;rcases cR ((b3 x r.key r.val).2.2) with bU | bU
   ·skip
    have nQ:=VP x.kind;rcases cR (gL x.kind) with eu | eu
    ·skip
     have y9:=Pb x.kind cs (⟨r.op,r.bf.aU,r.key,r.val⟩:Cell) (by omega);rcases cR ((cm x.kind cs (⟨r.op,r.bf.aU,r.key,r.val⟩:Cell)).2) with iT | iT
     ·skip
      rcases cR (x.kind==7) with jj | jj
      ·skip
       have ot:=Ae r.bf;rcases cR ((eF r.bf).2) with my | my
       ·skip
        
        rw[show dY g cs r x=(((cm x.kind cs (⟨r.op,r.bf.aU,r.key,r.val⟩:Cell)).1),(e4 x ((eF r.bf).1) ((b3 x r.key r.val).1) ((b3 x r.key r.val).2.1)),true) from by grind[dY,gL,cm]];exact anT ⟨(by grind),(by grind),(by grind[cp,ej,dy,Cell.flat,aJ]),c1,rfl,c2,(by rw[aA];rfl),et,(by rw[a'];rfl),gH,(by rw[bU];rfl),nQ,eu,y9,(by rw[iT];rfl),jj,ot,(by rw[my];rfl),(Xh x aa ((eF r.bf).1) ((b3 x r.key r.val).1) ((b3 x r.key r.val).2.1) _),ad⟩
       skip
       rw[show dY g cs r x=(((cm x.kind cs (⟨r.op,r.bf.aU,r.key,r.val⟩:Cell)).1),([]:List ay),true) from by grind[dY,gL,cm]];exact anS ⟨(by grind),(by grind),(by grind[cp,ej,dy,Cell.flat,aJ]),c1,rfl,c2,(by rw[aA];rfl),et,(by rw[a'];rfl),gH,(by rw[bU];rfl),nQ,eu,y9,(by rw[iT];rfl),jj,ot,(by rw[my];rfl),ad⟩
      skip
      
      rw[show dY g cs r x=(((cm x.kind cs (⟨r.op,r.bf.aU,r.key,r.val⟩:Cell)).1),(e4 x r.bf ((b3 x r.key r.val).1) ((b3 x r.key r.val).2.1)),true) from by grind[dY,gL,cm]];exact anU ⟨(by grind),(by grind),(by grind[cp,ej,dy,Cell.flat,aJ]),c1,rfl,c2,(by rw[aA];rfl),et,(by rw[a'];rfl),gH,(by rw[bU];rfl),nQ,eu,y9,(by rw[iT];rfl),jj,(Xi x aa r.bf ((b3 x r.key r.val).1) ((b3 x r.key r.val).2.1) _),ad⟩
     skip
     rw[show dY g cs r x=(((cm x.kind cs (⟨r.op,r.bf.aU,r.key,r.val⟩:Cell)).1),([]:List ay),true) from by grind[dY,gL,cm]];exact anR ⟨(by grind),(by grind),(by grind[cp,ej,dy,Cell.flat,aJ]),c1,rfl,c2,(by rw[aA];rfl),et,(by rw[a'];rfl),gH,(by rw[bU];rfl),nQ,eu,y9,(by rw[iT];rfl),ad⟩
    skip
    rcases cR (x.kind==7) with kv | kv
    ·skip
     have Fo:=Ae r.bf;rcases cR ((eF r.bf).2) with su | su
     ·skip
      
      rw[show dY g cs r x=(cs,(e4 x ((eF r.bf).1) ((b3 x r.key r.val).1) ((b3 x r.key r.val).2.1)),true) from by grind[dY,gL,cm]];exact anW ⟨(by grind),(by grind),(by grind[cp,ej,dy,Cell.flat,aJ]),c1,rfl,c2,(by rw[aA];rfl),et,(by rw[a'];rfl),gH,(by rw[bU];rfl),nQ,eu,kv,Fo,(by rw[su];rfl),(Xj x aa ((eF r.bf).1) ((b3 x r.key r.val).1) ((b3 x r.key r.val).2.1) _),ad⟩
     skip
     rw[show dY g cs r x=(cs,([]:List ay),true) from by grind[dY,gL,cm]];exact anV ⟨(by grind),(by grind),(by grind[cp,ej,dy,Cell.flat,aJ]),c1,rfl,c2,(by rw[aA];rfl),et,(by rw[a'];rfl),gH,(by rw[bU];rfl),nQ,eu,kv,Fo,(by rw[su];rfl),ad⟩
    skip
    
    rw[show dY g cs r x=(cs,(e4 x r.bf ((b3 x r.key r.val).1) ((b3 x r.key r.val).2.1)),true) from by grind[dY,gL,cm]];exact anX ⟨(by grind),(by grind),(by grind[cp,ej,dy,Cell.flat,aJ]),c1,rfl,c2,(by rw[aA];rfl),et,(by rw[a'];rfl),gH,(by rw[bU];rfl),nQ,eu,kv,(Xk x aa r.bf ((b3 x r.key r.val).1) ((b3 x r.key r.val).2.1) _),ad⟩
   skip
   rcases cR (x.kind != 8) with hS | hS
   ·skip
    rw[show dY g cs r x=(cs,([]:List ay),true) from by grind[dY,gL,cm]];exact amI ⟨(by grind),(by grind),(by grind[cp,ej,dy,Cell.flat,aJ]),c1,rfl,c2,(by rw[aA];rfl),et,(by rw[a'];rfl),gH,(by rw[bU];rfl),hS,ad⟩
   skip
   have j7:=VP x.kind;rcases cR (gL x.kind) with fp | fp
   ·skip
    have ou:=Pb x.kind cs (⟨r.op,r.bf.aU,r.key,r.val⟩:Cell) (by omega);rcases cR ((cm x.kind cs (⟨r.op,r.bf.aU,r.key,r.val⟩:Cell)).2) with mz | mz
    ·skip
     rcases cR (x.kind==7) with kW | kW
     ·skip
      have RH:=Ae r.bf;rcases cR ((eF r.bf).2) with ra | ra
      ·skip
       
       rw[show dY g cs r x=(((cm x.kind cs (⟨r.op,r.bf.aU,r.key,r.val⟩:Cell)).1),(e4 x ((eF r.bf).1) ((b3 x r.key r.val).1) ((b3 x r.key r.val).2.1)),true) from by grind[dY,gL,cm]];exact amd ⟨(by first | omega | (simp only[cp,ej];omega) | exact dy _ Cell.flat _ | grind[aJ]),(by first | omega | (simp only[cp,ej];omega) | exact dy _ Cell.flat _ | grind[aJ]),(by first | omega | (simp only[cp,ej];omega) | exact dy _ Cell.flat _ | grind[aJ]),c1,rfl,c2,(by rw[aA];rfl),et,(by rw[a'];rfl),gH,(by rw[bU];rfl),hS,j7,fp,ou,(by rw[mz];rfl),kW,RH,(by rw[ra];rfl),(Xh x aa ((eF r.bf).1) ((b3 x r.key r.val).1) ((b3 x r.key r.val).2.1) _),ad⟩
      skip
      rw[show dY g cs r x=(((cm x.kind cs (⟨r.op,r.bf.aU,r.key,r.val⟩:Cell)).1),([]:List ay),true) from by grind[dY,gL,cm]];exact ama ⟨(by first | omega | (simp only[cp,ej];omega) | exact dy _ Cell.flat _ | grind[aJ]),(by first | omega | (simp only[cp,ej];omega) | exact dy _ Cell.flat _ | grind[aJ]),(by first | omega | (simp only[cp,ej];omega) | exact dy _ Cell.flat _ | grind[aJ]),c1,rfl,c2,(by rw[aA];rfl),et,(by rw[a'];rfl),gH,(by rw[bU];rfl),hS,j7,fp,ou,(by rw[mz];rfl),kW,RH,(by rw[ra];rfl),ad⟩
     skip
     
     rw[show dY g cs r x=(((cm x.kind cs (⟨r.op,r.bf.aU,r.key,r.val⟩:Cell)).1),(e4 x r.bf ((b3 x r.key r.val).1) ((b3 x r.key r.val).2.1)),true) from by grind[dY,gL,cm]];exact amg ⟨(by grind),(by grind),(by grind[cp,ej,dy,Cell.flat,aJ]),c1,rfl,c2,(by rw[aA];rfl),et,(by rw[a'];rfl),gH,(by rw[bU];rfl),hS,j7,fp,ou,(by rw[mz];rfl),kW,(Xi x aa r.bf ((b3 x r.key r.val).1) ((b3 x r.key r.val).2.1) _),ad⟩
    skip
    rw[show dY g cs r x=(((cm x.kind cs (⟨r.op,r.bf.aU,r.key,r.val⟩:Cell)).1),([]:List ay),true) from by grind[dY,gL,cm]];exact al9 ⟨(by grind),(by grind),(by grind[cp,ej,dy,Cell.flat,aJ]),c1,rfl,c2,(by rw[aA];rfl),et,(by rw[a'];rfl),gH,(by rw[bU];rfl),hS,j7,fp,ou,(by rw[mz];rfl),ad⟩
   skip
   rcases cR (x.kind==7) with rb | rb
   ·skip
    have RI:=Ae r.bf;rcases cR ((eF r.bf).2) with pg | pg
    ·skip
     
     rw[show dY g cs r x=(cs,(e4 x ((eF r.bf).1) ((b3 x r.key r.val).1) ((b3 x r.key r.val).2.1)),true) from by grind[dY,gL,cm]];exact anN ⟨(by first | omega | (simp only[cp,ej];omega) | exact dy _ Cell.flat _ | grind[aJ]),(by first | omega | (simp only[cp,ej];omega) | exact dy _ Cell.flat _ | grind[aJ]),(by first | omega | (simp only[cp,ej];omega) | exact dy _ Cell.flat _ | grind[aJ]),c1,rfl,c2,(by rw[aA];rfl),et,(by rw[a'];rfl),gH,(by rw[bU];rfl),hS,j7,fp,rb,RI,(by rw[pg];rfl),(Xj x aa ((eF r.bf).1) ((b3 x r.key r.val).1) ((b3 x r.key r.val).2.1) _),ad⟩
    skip
    rw[show dY g cs r x=(cs,([]:List ay),true) from by grind[dY,gL,cm]];exact amh ⟨(by first | omega | (simp only[cp,ej];omega) | exact dy _ Cell.flat _ | grind[aJ]),(by first | omega | (simp only[cp,ej];omega) | exact dy _ Cell.flat _ | grind[aJ]),(by first | omega | (simp only[cp,ej];omega) | exact dy _ Cell.flat _ | grind[aJ]),c1,rfl,c2,(by rw[aA];rfl),et,(by rw[a'];rfl),gH,(by rw[bU];rfl),hS,j7,fp,rb,RI,(by rw[pg];rfl),ad⟩
   skip
   
   rw[show dY g cs r x=(cs,(e4 x r.bf ((b3 x r.key r.val).1) ((b3 x r.key r.val).2.1)),true) from by grind[dY,gL,cm]];exact anQ ⟨(by grind),(by grind),(by grind[cp,ej,dy,Cell.flat,aJ]),c1,rfl,c2,(by rw[aA];rfl),et,(by rw[a'];rfl),gH,(by rw[bU];rfl),hS,j7,fp,rb,(Xk x aa r.bf ((b3 x r.key r.val).1) ((b3 x r.key r.val).2.1) _),ad⟩
  skip
  rw[show dY g cs r x=(cs,([]:List ay),false) from by grind[dY,gL,cm]];exact amH ⟨(by grind),(by grind),(by grind[cp,ej,dy,Cell.flat,aJ]),c1,rfl,c2,(by rw[aA];rfl),et,(by rw[a'];rfl),ad⟩
 skip
 rw[show dY g cs r x=(cs,([]:List ay),false) from by grind[dY,gL,cm]];exact amG ⟨(by grind),(by grind),(by grind[cp,ej,dy,Cell.flat,aJ]),c1,rfl,c2,(by rw[aA];rfl),ad⟩
theorem anu(g:bF)(cs:List Cell)(r:ay)(x:Node)(ar:g.sz<=8388608)(aj:cs.length<=8388608)(aP:dZ g r.op=some x):av 232 [.agg g.e,.one (.J 4 (cs.map Cell.e)),.agg r.e] [.one (.J 4 ((dY g cs r x).1.map Cell.e)),.one (.J 5 ((dY g cs r x).2.1.map ay.e)),.one (B (dY g cs r x).2.2)]:=by
 have aa:=bF.xC ar (CS aP);obtain⟨oH,ru,_,_⟩:=xZ aP;have dC:g.nodes[r.op.toNat]?=some x:=by simp_all[dZ,bh]
 have c1:=wI g ar;rcases cR (dg g) with U | U
 ·skip
  have cw:=rZ r;rcases cR (dM r) with aI | aI
  ·skip
   have fE:=s4 g r.op true (by rw[aP];rfl) ar;have gH:=V4 x r.key r.val aa;rcases cR ((b3 x r.key r.val).2.2) with bU | bU
   ·skip
    have nQ:=VQ x.kind cs (⟨r.op,r.bf.aU,r.key,r.val⟩:Cell) (by omega);rcases cR ((cm x.kind cs (⟨r.op,r.bf.aU,r.key,r.val⟩:Cell)).2) with eu | eu
    ·skip
     rcases cR (x.kind==7) with d' | d'
     ·skip
      have q3:=N1 r.bf
      
      rw[show dY g cs r x=(((cm x.kind cs (⟨r.op,r.bf.aU,r.key,r.val⟩:Cell)).1),(bif (eF r.bf).2 then e4 x ((eF r.bf).1) ((b3 x r.key r.val).1) ((b3 x r.key r.val).2.1) else []),true) from by grind[dY,gL,cm]];exact an8 ⟨c1,(by rw[U];rfl),cw,(by rw[aI];rfl),fE,rfl,(by grind),(by grind),(bL Node.e dC),gH,(by rw[bU];rfl),nQ,(by rw[eu];rfl),d',q3,(Xm x aa ((eF r.bf).2) ((eF r.bf).1) ((b3 x r.key r.val).1) ((b3 x r.key r.val).2.1) _),ad⟩
     skip
     
     rw[show dY g cs r x=(((cm x.kind cs (⟨r.op,r.bf.aU,r.key,r.val⟩:Cell)).1),(e4 x r.bf ((b3 x r.key r.val).1) ((b3 x r.key r.val).2.1)),true) from by grind[dY,gL,cm]];exact an9 ⟨c1,(by rw[U];rfl),cw,(by rw[aI];rfl),fE,rfl,(by grind),(by grind),(bL Node.e dC),gH,(by rw[bU];rfl),nQ,(by rw[eu];rfl),d',(Xl x aa r.bf ((b3 x r.key r.val).1) ((b3 x r.key r.val).2.1) _),ad⟩
    skip
    rw[show dY g cs r x=(((cm x.kind cs (⟨r.op,r.bf.aU,r.key,r.val⟩:Cell)).1),([]:List ay),true) from by grind[dY,gL,cm]];exact an7 ⟨c1,(by rw[U];rfl),cw,(by rw[aI];rfl),fE,rfl,(by grind),(by grind),(bL Node.e dC),gH,(by rw[bU];rfl),nQ,(by rw[eu];rfl),ad⟩
   skip
   rcases cR (x.kind != 8) with jj | jj
   ·skip
    have ot:=uL cs (by omega);rw[show dY g cs r x=(cs,([]:List ay),true) from by grind[dY,gL,cm]];exact anZ ⟨c1,(by rw[U];rfl),cw,(by rw[aI];rfl),fE,rfl,(by grind),(by grind),(bL Node.e dC),gH,(by rw[bU];rfl),jj,ot,ad⟩
   skip
   have JO:=VQ x.kind cs (⟨r.op,r.bf.aU,r.key,r.val⟩:Cell) (by omega);rcases cR ((cm x.kind cs (⟨r.op,r.bf.aU,r.key,r.val⟩:Cell)).2) with kv | kv
   ·skip
    rcases cR (x.kind==7) with cA | cA
    ·skip
     have m':=N1 r.bf
     
     rw[show dY g cs r x=(((cm x.kind cs (⟨r.op,r.bf.aU,r.key,r.val⟩:Cell)).1),(bif (eF r.bf).2 then e4 x ((eF r.bf).1) ((b3 x r.key r.val).1) ((b3 x r.key r.val).2.1) else []),true) from by grind[dY,gL,cm]];exact an3 ⟨c1,(by rw[U];rfl),cw,(by rw[aI];rfl),fE,rfl,(by first | omega | (simp only[cp,ej];omega) | exact dy _ Cell.flat _ | grind[aJ]),(by first | omega | (simp only[cp,ej];omega) | exact dy _ Cell.flat _ | grind[aJ]),(bL Node.e dC),gH,(by rw[bU];rfl),jj,JO,(by rw[kv];rfl),cA,m',(Xm x aa ((eF r.bf).2) ((eF r.bf).1) ((b3 x r.key r.val).1) ((b3 x r.key r.val).2.1) _),ad⟩
    skip
    
    rw[show dY g cs r x=(((cm x.kind cs (⟨r.op,r.bf.aU,r.key,r.val⟩:Cell)).1),(e4 x r.bf ((b3 x r.key r.val).1) ((b3 x r.key r.val).2.1)),true) from by grind[dY,gL,cm]];exact an6 ⟨c1,(by rw[U];rfl),cw,(by rw[aI];rfl),fE,rfl,(by grind),(by grind),(bL Node.e dC),gH,(by rw[bU];rfl),jj,JO,(by rw[kv];rfl),cA,(Xl x aa r.bf ((b3 x r.key r.val).1) ((b3 x r.key r.val).2.1) _),ad⟩
   skip
   rw[show dY g cs r x=(((cm x.kind cs (⟨r.op,r.bf.aU,r.key,r.val⟩:Cell)).1),([]:List ay),true) from by grind[dY,gL,cm]];exact an0 ⟨c1,(by rw[U];rfl),cw,(by rw[aI];rfl),fE,rfl,(by grind),(by grind),(bL Node.e dC),gH,(by rw[bU];rfl),jj,JO,(by rw[kv];rfl),ad⟩
  skip
  have ace:=uL cs (by omega);rw[show dY g cs r x=(cs,([]:List ay),false) from by grind[dY,gL,cm]];exact VN ⟨c1,(by rw[U];rfl),cw,(by rw[aI];rfl),ace,ad⟩
 skip
 have j7:=uL cs (by omega);rw[show dY g cs r x=(cs,([]:List ay),false) from by grind[dY,gL,cm]];exact VM ⟨c1,(by rw[U];rfl),j7,ad⟩
