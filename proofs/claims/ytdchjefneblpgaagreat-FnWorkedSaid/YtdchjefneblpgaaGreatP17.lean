import Derived.Test.YtdchjefneblpgaaGreatP16
import Derived.Test.YtdchjefneblpgaaGreatGS
set_option linter.unusedVariables false
set_option linter.unusedSimpArgs false
namespace Go.Proofs.YtdchjefneblpgaaGreat
open Go.Sx Go.RowKit Go.Proofs.Tryz
theorem abK{P:Program}{f:Nat}{args:List GA}{k:Nat}{l fU:List (List D)}(h:kj P f args [.one (.J k l)])(ap:l=fU):kj P f args [.one (.J k fU)]:=ap▸h
theorem JA(xs:List Cell)(p:Cell->Bool)(g:Nat)(br:List D)(ap:xs.length<=8388608)(al:iv prog g=true)(hp:∀x∈xs,∀r,p x=r->ar g ([.agg x.e]++br.map .one) [.one (B r)]):
  ∀(n i:Nat) (ys:List Cell),n+i=xs.length->ys.length=xs.length->ys.drop i=xs.drop i->ys.take ((xs.take i).filter fun a=>!p a).length=(xs.take i).filter (fun a=>!p a)->
  ∃zs:List Cell,cV prog (ao f345 0) (tc g br i ((xs.take i).filter fun a=>!p a).length (ys.map Cell.e)) (.exit 0) (JV (zs.map Cell.e) (xs.filter fun a=>!p a).length)/\zs.length=xs.length/\zs.take (xs.filter fun a=>!p a).length=xs.filter (fun a=>!p a)
 | 0,i,ys,hi,bD,_,bU=>by
  have e:xs.take i=xs:=AY (by omega);rw[e]at bU ⊢;exact⟨ys,.last (cH 0) (anD ⟨eL (by simp;omega),aa⟩),bD,bU⟩
 | n+1,i,ys,hi,bD,aG,bU=>by
  obtain⟨a,ah⟩:=cS (xs:=xs) (i:=i) (by omega);have Nz:ys[i]?=some a:=by
   have e1:ys[i]?=(ys.drop i)[0]?:=by simp
   grind
  have b0:=yX (fun a=>!p a) ah;have hle:=JY (fun a=>!p a) xs i;have BG:ys.drop (i+1)=xs.drop (i+1):=by
   have:=congrArg (List.drop 1) aG;grind[List.drop_drop,Nat.add_comm]
  cases h:p a with
  | true=>
   rw[h]at b0;simp only[iY,oy,lK,k']at b0;obtain⟨zs,h1,U,ax⟩:=JA xs p g br ap al hp n (i+1) ys (by omega) bD BG (by grind);rw[b0]at h1;exact⟨zs,.more (anC ⟨dM (by simp;omega),bw,by simp;omega,bA Cell.e Nz,al,hp a (eA ah) true h,rfl,⟨by omega,by omega⟩,aa⟩) h1,U,ax⟩
  | false=>
   rw[h]at b0;simp only[nF,gO]at b0;generalize bg:((xs.take i).filter fun a=>!p a).length=j at*;obtain⟨b,aw⟩:=cS (xs:=ys) (i:=j) (by omega);obtain⟨zs,h1,U,ax⟩:=JA xs p g br ap al hp n (i+1) (ys.set j a) (by omega) (by grind) (by grind[List.drop_set_of_lt]) (by
    rw[b0,kH,bg,List.length_singleton,List.take_set,<-bU];have jQ:j<ys.length:=by omega
    simp_all[List.take_succ_eq_append_getElem,List.set_append_right,tF,Nat.min_eq_left,Nat.le_of_lt])
   rw[b0,kH,bg,List.length_singleton]at h1;refine⟨zs,.more (K5 (fun l=>tc g br ((i+1:Nat):Int) ((j+1:Nat):Int) l) (al8 ⟨dM (by simp;omega),bw,by simp;omega,bA Cell.e Nz,al,hp a (eA ah) false h,rfl,bw,by simp;omega,bA Cell.e aw,⟨by omega,by omega⟩,⟨by omega,by omega⟩,aa⟩) ?_) h1,U,ax⟩;show List.set _ _ a.e=_;simp_all
theorem abL(xs:List Cell)(p:Cell->Bool)(g:Nat)(br:List D)(ap:xs.length<=8388608)(al:iv prog g=true)(hp:∀x∈xs,ar g ([.agg x.e]++br.map .one) [.one (B (p x))]):
  kj prog 345 [.one (.eV 4 (xs.map Cell.e) none),.one (.ro (.cl g br))] [.one (.J 4 ((xs.filter fun a=>!p a).map Cell.e))]:=by
 have o4:∀x∈xs,∀r,p x=r->ar g ([.agg x.e]++br.map .one) [.one (B r)]:=fun x ak r h=>h▸hp x ak
 have o':=aoG xs p g br ap al hp;unfold rv at o';cases h:xs.findIdx? p with
 | none=>
  rw[h]at o';rw[EJ]at h;have e:(xs.filter fun a=>!p a)=xs:=List.filter_eq_self.2 fun a ah=>by simp[h a ah]
  rw[e];exact al7 ⟨o',rfl,aa⟩
 | some i=>
  rw[h]at o';change hA _ _ _ [.one (I (i:Int))]at o';rw[tE]at h;obtain⟨hi,U,ax⟩:=h;have ak:xs[i]?=some xs[i]:=iZ hi;have bB:(xs.take i).filter (fun a=>!p a)=xs.take i:=List.filter_eq_self.2 fun a ah=>by
   grind[List.getElem_of_mem]
  have e1:=yX (fun a=>!p a) ak;rw[U]at e1;simp only[iY,oy,lK,k']at e1;rw[bB]at e1;have e2:(xs.take i).length=i:=by grind
  obtain⟨zs,l,bl,bU⟩:=JA xs p g br ap al o4 (xs.length-(i+1)) (i+1) xs (by omega) rfl rfl (by rw[e1,e2]);rw[e1,e2]at l;have bJ:(xs.filter fun a=>!p a).length<xs.length:=by
   grind[Vm,kH,qK,List.length_drop]
  generalize xs.filter (fun a=>!p a)=ew at*;refine abK (anE ⟨o',xr.2 (by omega),⟨by omega,by omega⟩,l,by simp,by simp;omega,dA _ Cell.flat _,by simp,by simp,by simp;omega,aa⟩) ?_;simp only[jZ,pP,Nat.sub_zero,vz,<-qQ];grind
def fC(k:Int):Bool:=k==5||k==6||k==8
def ix(xs:List Cell)(x:Cell):List Cell×Bool:=
 if (pB xs x.op x.bc x.key).2&&decide ((pB xs x.op x.bc x.key).1<=x.val) then (xs,false) else (jF (xs.filter fun a=>!eJ x a) x,true)
def cT(kind:Int)(xs:List Cell)(x:Cell):List Cell×Bool:=
 if kind=6 then (if np xs x then (xs,false) else (jF xs x,true))
 else if kind=5\/kind=8 then ix xs x
 else (xs,true)
theorem Qo(k:Int):ar 268 [.one (I k)] [.one (B (fC k))]:=by
 rcases cD (k==5) with h1 | h1
 ·skip
  rw[show fC k=true from by grind[fC]];exact anp ⟨h1,aa⟩
 skip
 rcases cD (k==6) with U | U
 ·skip
  rw[show fC k=true from by grind[fC]];exact anq ⟨h1,U,aa⟩
 skip
 rw[show fC k=(k==8) from by grind[fC]];exact anr ⟨h1,U,aa⟩
theorem Qp(xs:List Cell)(x:Cell)(ap:xs.length<=8388608):ar 318 [.one (.J 4 (xs.map Cell.e)),.agg x.e] [.one (.J 4 ((ix xs x).1.map Cell.e)),.one (B (ix xs x).2)]:=by
 have c:=YX xs x.op x.bc x.key ap;have dL:=td xs ap;have d:=abL xs (eJ x) 346 [D.ptr x.e] ap (by kernel_rfl) (fun y _=>al6 ⟨QF x y,aa⟩);have NW:=Qt (xs.filter fun a=>!eJ x a) x (sc (qK ..) ap);unfold ix;generalize pB xs x.op x.bc x.key=m at*;obtain⟨v,f⟩:=m;cases f with
 | false=>exact anN ⟨c,rfl,dL,d,NW,aa⟩
 | true=>
  by_cases h:v<=x.val
  ·rw[dM h];exact anL ⟨c,rfl,dM h,dL,aa⟩
  rw[eL h];exact anM ⟨c,rfl,eL h,dL,d,NW,aa⟩
theorem abM(xs acc:List Cell)(x:Cell)(ap:xs.length<=8388608)(i:Nat)(al:acc.length<=i)(a:Cell)(ah:xs[i]?=some a):gf prog (ao f269 0) (kA (xs.map Cell.e) x.op x.bc x.key x.val i (acc.map Cell.e)) .normal (kA (xs.map Cell.e) x.op x.bc x.key x.val ((i+1:Nat):Int) ((acc++(bif eJ x a then [] else [a])).map Cell.e)):=by
 have bg:=a1 ah;have dd:xs[(i:Int).toNat]?=some a:=by grind
 have dV:decide ((i:Int)<(↑(xs.map Cell.e).length:Int))=true:=b6 bg;rcases cD (a.op != x.op) with h1 | h1
 ·skip
  have ai:eJ x a=false:=by grind[eJ]
  rw[ai];rw[show (acc++(bif false then [] else [a])).map Cell.e=acc.map Cell.e++[a.e] from by simp];exact anw ⟨dV,(by grind),(by grind),(bC Cell.e dd),h1,(by grind),(by grind),(bC Cell.e dd),(by grind),(by grind),(by grind[cm,hz,dR,fV]),(by first | omega | (simp only[cm,hz,dR];omega) | exact fV a.flat | (exact⟨by omega,by omega⟩)),aa⟩
 skip
 rcases cD (a.bc != x.bc) with U | U
 ·skip
  have ai:eJ x a=false:=by grind[eJ]
  rw[ai];rw[show (acc++(bif false then [] else [a])).map Cell.e=acc.map Cell.e++[a.e] from by simp];exact anx ⟨dV,(by grind),(by grind),(bC Cell.e dd),h1,(by grind),(by grind),(bC Cell.e dd),U,(by grind),(by grind),(bC Cell.e dd),(by grind),(by grind),(by grind[cm,hz,dR,fV]),(by first | omega | (simp only[cm,hz,dR];omega) | exact fV a.flat | (exact⟨by omega,by omega⟩)),aa⟩
 skip
 rcases cD (a.key != x.key) with ax | ax
 ·skip
  have ai:eJ x a=false:=by grind[eJ]
  rw[ai];rw[show (acc++(bif false then [] else [a])).map Cell.e=acc.map Cell.e++[a.e] from by simp];exact anz ⟨dV,(by grind),(by grind),(bC Cell.e dd),h1,(by grind),(by grind),(bC Cell.e dd),U,(by grind),(by grind),(bC Cell.e dd),ax,(by grind),(by grind),(bC Cell.e dd),(by grind),(by grind),(by grind[cm,hz,dR,fV]),(by first | omega | (simp only[cm,hz,dR];omega) | exact fV a.flat | (exact⟨by omega,by omega⟩)),aa⟩
 skip
 have ai:eJ x a=true:=by grind[eJ]
 rw[ai];rw[show (acc++(bif true then [] else [a])).map Cell.e=acc.map Cell.e from by simp];exact anA ⟨dV,(by grind),(by grind),(bC Cell.e dd),h1,(by grind),(by grind),(bC Cell.e dd),U,(by grind),(by grind),(bC Cell.e dd),ax,(by first | omega | (simp only[cm,hz,dR];omega) | exact fV a.flat | (exact⟨by omega,by omega⟩)),aa⟩
theorem abN(p:Cell->Bool){xs:List Cell}{i:Nat}{a:Cell}(h:xs[i]?=some a):(xs.take (i+1)).filter (fun b=>!p b)=(xs.take i).filter (fun b=>!p b)++(bif p a then [] else [a]):=by
 rw[yX _ h];grind
theorem Dw(xs:List Cell)(x:Cell)(ap:xs.length<=8388608):cV prog (ao f269 0) (kA (xs.map Cell.e) x.op x.bc x.key x.val 0 []) (.exit 1) (w3 x.op x.bc x.key x.val ((xs.filter fun a=>!eJ x a).map Cell.e)):=by
 have l:=eN (P:=prog) (c:=(ao f269 0)) (cH 1) xs.length (fun i:Nat=>kA (xs.map Cell.e) x.op x.bc x.key x.val i (((xs.take i).filter fun a=>!eJ x a).map Cell.e)) (fun i hi=>by
  obtain⟨a,ah⟩:=cS hi;rw[abN (eJ x) ah];grind[abM,JY]) (anB ⟨dz,aa⟩)
 grind
theorem Qq(kind:Int)(xs:List Cell)(x:Cell)(ap:xs.length<=8388608):ar 269 [.one (I kind),.one (.J 4 (xs.map Cell.e)),.agg x.e] [.one (.J 4 (((cT kind xs x).1).map Cell.e)),.one (B ((cT kind xs x).2))]:=by
 have b0:=qK (fun a=>!eJ x a) xs;rcases cD (kind==6) with h1 | h1
 ·skip
  have c2:=Rf xs x (by omega);rcases cD (np xs x) with ax | ax
  ·skip
   rw[show cT kind xs x=(xs,false) from by grind[cT,ix]];exact ant ⟨(by grind),(by grind),(by grind[cm,dR,dA,Cell.flat,aI]),h1,c2,ax,aa⟩
  skip
  have dU:=zM xs x (by omega);rw[show cT kind xs x=((jF xs x),true) from by grind[cT,ix]];exact anu ⟨(by grind),(by grind),(by grind[cm,dR,dA,Cell.flat,aI]),h1,c2,ax,dU,aa⟩
 skip
 rcases cD (kind==5) with aY | aY
 ·skip
  have gE:=QG xs x.op x.bc x.key (by omega);rcases cD ((pB xs x.op x.bc x.key).2) with bN | bN
  ·skip
   rcases cD (decide (((pB xs x.op x.bc x.key).1)<=x.val)) with db | db
   ·skip
    rw[show cT kind xs x=(xs,false) from by grind[cT,ix]];exact anv ⟨(by grind),(by grind),(by grind[cm,dR,dA,Cell.flat,aI]),h1,aY,aY,gE,bN,db,aa⟩
   skip
   
   have VG:=zM (xs.filter fun a=>!eJ x a) x (by omega);rw[show cT kind xs x=((jF (xs.filter fun a=>!eJ x a) x),true) from by grind[cT,ix]];exact amZ ⟨(by grind),(by grind),(by grind[cm,dR,dA,Cell.flat,aI]),h1,aY,aY,gE,bN,db,(Dw xs x ap),VG,aa⟩
  skip
  
  have vF:=zM (xs.filter fun a=>!eJ x a) x (by omega);rw[show cT kind xs x=((jF (xs.filter fun a=>!eJ x a) x),true) from by grind[cT,ix]];exact am0 ⟨(by grind),(by grind),(by grind[cm,dR,dA,Cell.flat,aI]),h1,aY,aY,gE,bN,(Dw xs x ap),vF,aa⟩
 skip
 rcases cD (kind==8) with hj | hj
 ·skip
  have mC:=QG xs x.op x.bc x.key (by omega);rcases cD ((pB xs x.op x.bc x.key).2) with ss | ss
  ·skip
   rcases cD (decide (((pB xs x.op x.bc x.key).1)<=x.val)) with kl | kl
   ·skip
    rw[show cT kind xs x=(xs,false) from by grind[cT,ix]];exact am1 ⟨(by grind),(by grind),(by grind[cm,dR,dA,Cell.flat,aI]),h1,aY,hj,mC,ss,kl,aa⟩
   skip
   
   have VE:=zM (xs.filter fun a=>!eJ x a) x (by omega);rw[show cT kind xs x=((jF (xs.filter fun a=>!eJ x a) x),true) from by grind[cT,ix]];exact am2 ⟨(by grind),(by grind),(by grind[cm,dR,dA,Cell.flat,aI]),h1,aY,hj,mC,ss,kl,(Dw xs x ap),VE,aa⟩
  skip
  
  have Bi:=zM (xs.filter fun a=>!eJ x a) x (by omega);rw[show cT kind xs x=((jF (xs.filter fun a=>!eJ x a) x),true) from by grind[cT,ix]];exact am3 ⟨(by grind),(by grind),(by grind[cm,dR,dA,Cell.flat,aI]),h1,aY,hj,mC,ss,(Dw xs x ap),Bi,aa⟩
 skip
 rw[show cT kind xs x=(xs,true) from by grind[cT,ix]];exact am4 ⟨(by grind),(by grind),(by grind[cm,dR,dA,Cell.flat,aI]),h1,aY,hj,aa⟩
theorem Qr(kind:Int)(xs:List Cell)(x:Cell)(ap:xs.length<=8388608):ar 299 [.one (I kind),.one (.J 4 (xs.map Cell.e)),.agg x.e] [.one (.J 4 (((cT kind xs x).1).map Cell.e)),.one (B ((cT kind xs x).2))]:=by
 rcases cD (kind==5) with h1 | h1
 ·skip
  have c2:=Qp xs x (by omega);rw[show cT kind xs x=(((ix xs x).1),(ix xs x).2) from by grind[cT,ix,jF]];exact anO ⟨h1,h1,c2,aa⟩
 skip
 rcases cD (kind==8) with ax | ax
 ·skip
  have dU:=Qp xs x (by omega);rw[show cT kind xs x=(((ix xs x).1),(ix xs x).2) from by grind[cT,ix,jF]];exact anP ⟨h1,ax,dU,aa⟩
 skip
 rcases cD (kind==6) with aY | aY
 ·skip
  have gE:=Qt xs x (by omega);have E5:=Rh xs x (by omega);rw[show cT kind xs x=((jF xs x),!(np xs x)) from by grind[cT,ix,jF]];exact anQ ⟨h1,ax,aY,gE,E5,aa⟩
 skip
 have lg:=td xs (by omega);rw[show cT kind xs x=(xs,true) from by grind[cT,ix,jF]];exact anR ⟨h1,ax,aY,lg,aa⟩
def hL(x:Node)(s:gd)(key val:Int):List aB:=x.outs.map fun k=>⟨k,s,key,val⟩
def cellOf(r:aB):Cell:=⟨r.op,r.bp.bc,r.key,r.val⟩
def dB(g:bR)(cs:List Cell)(r:aB)(x:Node):List Cell×List aB×Bool:=
 if dY g&&eR r then
  if !(cK x r.key r.val).2.2&&x.kind != 8 then (cs,[],true)
  else if !(cT x.kind cs ⟨r.op,r.bp.bc,r.key,r.val⟩).2 then ((cT x.kind cs ⟨r.op,r.bp.bc,r.key,r.val⟩).1,[],true)
  else if x.kind=7 then
   ((cT x.kind cs ⟨r.op,r.bp.bc,r.key,r.val⟩).1,(bif (eI r.bp).2 then hL x (eI r.bp).1 (cK x r.key r.val).1 (cK x r.key r.val).2.1 else []),true)
  else ((cT x.kind cs ⟨r.op,r.bp.bc,r.key,r.val⟩).1,hL x r.bp (cK x r.key r.val).1 (cK x r.key r.val).2.1,true)
 else (cs,[],false)
theorem xa(x:Node)(s:gd)(key val:Int){i:Nat}{k:Int}(h:x.outs[i]?=some k):(((x.outs.take (i+1)).map fun k=>(⟨k,s,key,val⟩:aB)).map aB.e)=(((x.outs.take i).map fun k=>(⟨k,s,key,val⟩:aB)).map aB.e)++[(⟨k,s,key,val⟩:aB).e]:=by
 simp[vy,h]
theorem RS(x:Node)(ak:x.outs.length<=8388608)(s:gd)(key val:Int)(h2:List (List D)):cV prog (ao f176 0) (uS x.kind x.a x.b (x.outs.map a6) key val h2 s.bc s.dT 0 []) (.exit 0) (sM h2 ((hL x s key val).map aB.e)):=by
 have l:=eN (P:=prog) (c:=(ao f176 0)) (cH 0) x.outs.length (fun i:Nat=>uS x.kind x.a x.b (x.outs.map a6) key val h2 s.bc s.dT i (((x.outs.take i).map fun k=>(⟨k,s,key,val⟩:aB)).map aB.e)) (fun i hi=>by
  obtain⟨k,hk⟩:=cS hi;rw[xa x s key val hk];exact abY ⟨b6 hi,bw,bE hi,bA a6 hk,by simp;omega,by simp;omega,fV (aB.flat ⟨k,s,key,val⟩),dc hi ak,aa⟩) (abZ ⟨dz,aa⟩)
 rw[k8]at l;exact l
theorem RT(x:Node)(ak:x.outs.length<=8388608)(s:gd)(key val:Int)(h2:List (List D)):cV prog (ao f176 0) (uT s.bc s.dT x.kind x.a x.b (x.outs.map a6) key val h2 0 []) (.exit 0) (sM h2 ((hL x s key val).map aB.e)):=by
 have l:=eN (P:=prog) (c:=(ao f176 0)) (cH 0) x.outs.length (fun i:Nat=>uT s.bc s.dT x.kind x.a x.b (x.outs.map a6) key val h2 i (((x.outs.take i).map fun k=>(⟨k,s,key,val⟩:aB)).map aB.e)) (fun i hi=>by
  obtain⟨k,hk⟩:=cS hi;rw[xa x s key val hk];exact ab1 ⟨b6 hi,bw,bE hi,bA a6 hk,by simp;omega,by simp;omega,fV (aB.flat ⟨k,s,key,val⟩),dc hi ak,aa⟩) (ab2 ⟨dz,aa⟩)
 rw[k8]at l;exact l
theorem RU(x:Node)(ak:x.outs.length<=8388608)(s:gd)(key val:Int)(h2:List (List D)):cV prog (ao f176 0) (uU h2 x.kind x.a x.b (x.outs.map a6) key val s.bc s.dT 0 []) (.exit 0) (sN h2 ((hL x s key val).map aB.e)):=by
 have l:=eN (P:=prog) (c:=(ao f176 0)) (cH 0) x.outs.length (fun i:Nat=>uU h2 x.kind x.a x.b (x.outs.map a6) key val s.bc s.dT i (((x.outs.take i).map fun k=>(⟨k,s,key,val⟩:aB)).map aB.e)) (fun i hi=>by
  obtain⟨k,hk⟩:=cS hi;rw[xa x s key val hk];exact ab5 ⟨b6 hi,bw,bE hi,bA a6 hk,by simp;omega,by simp;omega,fV (aB.flat ⟨k,s,key,val⟩),dc hi ak,aa⟩) (ab6 ⟨dz,aa⟩)
 rw[k8]at l;exact l
theorem RV(x:Node)(ak:x.outs.length<=8388608)(s:gd)(key val:Int)(h2:List (List D)):cV prog (ao f176 0) (uV h2 s.bc s.dT x.kind x.a x.b (x.outs.map a6) key val 0 []) (.exit 0) (sN h2 ((hL x s key val).map aB.e)):=by
 have l:=eN (P:=prog) (c:=(ao f176 0)) (cH 0) x.outs.length (fun i:Nat=>uV h2 s.bc s.dT x.kind x.a x.b (x.outs.map a6) key val i (((x.outs.take i).map fun k=>(⟨k,s,key,val⟩:aB)).map aB.e)) (fun i hi=>by
  obtain⟨k,hk⟩:=cS hi;rw[xa x s key val hk];exact ab8 ⟨b6 hi,bw,bE hi,bA a6 hk,by simp;omega,by simp;omega,fV (aB.flat ⟨k,s,key,val⟩),dc hi ak,aa⟩) (ab9 ⟨dz,aa⟩)
 rw[k8]at l;exact l
theorem RW(x:Node)(ak:x.outs.length<=8388608)(s:gd)(key val:Int)(h2:List (List D)):cV prog (ao f232 0) (uW s.bc s.dT (x.outs.map a6) key val h2 0 []) (.exit 0) (sO h2 ((hL x s key val).map aB.e)):=by
 have l:=eN (P:=prog) (c:=(ao f232 0)) (cH 0) x.outs.length (fun i:Nat=>uW s.bc s.dT (x.outs.map a6) key val h2 i (((x.outs.take i).map fun k=>(⟨k,s,key,val⟩:aB)).map aB.e)) (fun i hi=>by
  obtain⟨k,hk⟩:=cS hi;rw[xa x s key val hk];exact aby ⟨b6 hi,bw,bE hi,bA a6 hk,rfl,by simp;omega,by simp;omega,fV (aB.flat ⟨k,s,key,val⟩),dc hi ak,aa⟩) (abz ⟨dz,aa⟩)
 rw[k8]at l;exact l
theorem RX(x:Node)(ak:x.outs.length<=8388608)(b:Bool)(s:gd)(key val:Int)(h2:List (List D)):cV prog (ao f232 0) (qo (x.outs.map a6) key val h2 s.bc s.dT b 0 []) (.exit 0) (sO h2 ((bif b then hL x s key val else []).map aB.e)):=by
 cases b with
 | true=>
  have l:=eN (P:=prog) (c:=(ao f232 0)) (cH 0) x.outs.length (fun i:Nat=>qo (x.outs.map a6) key val h2 s.bc s.dT true i (((x.outs.take i).map fun k=>(⟨k,s,key,val⟩:aB)).map aB.e)) (fun i hi=>by
   obtain⟨k,hk⟩:=cS hi;rw[xa x s key val hk];exact abv ⟨b6 hi,bw,bE hi,bA a6 hk,rfl,by simp;omega,by simp;omega,fV (aB.flat ⟨k,s,key,val⟩),dc hi ak,aa⟩) (Qn ⟨dz,aa⟩)
  rw[k8]at l;exact l
 | false=>
  exact eN (P:=prog) (c:=(ao f232 0)) (cH 0) x.outs.length (fun i:Nat=>qo (x.outs.map a6) key val h2 s.bc s.dT false i []) (fun i hi=>by
   obtain⟨k,hk⟩:=cS hi;exact abw ⟨b6 hi,bw,bE hi,bA a6 hk,rfl,dc hi ak,aa⟩) (Qn ⟨dz,aa⟩)
theorem abO(g:bR)(cs:List Cell)(r:aB)(x:Node)(av:g.sz<=8388608)(ap:cs.length<=8388608)(a8:fF g r.op=some x):ar 176 [.agg g.e,.one (.J 4 (cs.map Cell.e)),.agg r.e] [.one (.J 4 ((dB g cs r x).1.map Cell.e)),.one (.J 5 ((dB g cs r x).2.1.map aB.e)),.one (B (dB g cs r x).2.2)]:=by
 have ak:=bR.yR av (J3 a8);obtain⟨l0,rf,_,_⟩:=CX a8;have dd:g.nodes[r.op.toNat]?=some x:=by simp_all[fF,bM]
 have c1:=CZ g r.op (x,true) (by grind[te]) av;have c2:=w7 g av;rcases cD (dY g) with ax | ax
 ·skip
  have dU:=rT r;rcases cD (eR r) with aY | aY
  ·skip
   have gE:=YT x r.key r.val ak;rcases cD ((cK x r.key r.val).2.2) with bN | bN
   ·skip
    have lg:=Qo x.kind;rcases cD (fC x.kind) with dQ | dQ
    ·skip
     have vF:=Qq x.kind cs (⟨r.op,r.bp.bc,r.key,r.val⟩:Cell) (by omega);rcases cD ((cT x.kind cs (⟨r.op,r.bp.bc,r.key,r.val⟩:Cell)).2) with hj | hj
     ·skip
      rcases cD (x.kind==7) with hB | hB
      ·skip
       have lN:=w6 r.bp;rcases cD ((eI r.bp).2) with kl | kl
       ·skip
        
        rw[show dB g cs r x=(((cT x.kind cs (⟨r.op,r.bp.bc,r.key,r.val⟩:Cell)).1),(hL x ((eI r.bp).1) ((cK x r.key r.val).1) ((cK x r.key r.val).2.1)),true) from by grind[dB,fC,cT]];exact ace ⟨(by grind),(by grind),(by grind[cm,dR,dA,Cell.flat,aI]),c1,rfl,c2,(by rw[ax];rfl),dU,(by rw[aY];rfl),gE,(by rw[bN];rfl),lg,dQ,vF,(by rw[hj];rfl),hB,lN,(by rw[kl];rfl),(RS x ak ((eI r.bp).1) ((cK x r.key r.val).1) ((cK x r.key r.val).2.1) _),aa⟩
       skip
       rw[show dB g cs r x=(((cT x.kind cs (⟨r.op,r.bp.bc,r.key,r.val⟩:Cell)).1),([]:List aB),true) from by grind[dB,fC,cT]];exact acd ⟨(by grind),(by grind),(by grind[cm,dR,dA,Cell.flat,aI]),c1,rfl,c2,(by rw[ax];rfl),dU,(by rw[aY];rfl),gE,(by rw[bN];rfl),lg,dQ,vF,(by rw[hj];rfl),hB,lN,(by rw[kl];rfl),aa⟩
      skip
      
      rw[show dB g cs r x=(((cT x.kind cs (⟨r.op,r.bp.bc,r.key,r.val⟩:Cell)).1),(hL x r.bp ((cK x r.key r.val).1) ((cK x r.key r.val).2.1)),true) from by grind[dB,fC,cT]];exact acf ⟨(by grind),(by grind),(by grind[cm,dR,dA,Cell.flat,aI]),c1,rfl,c2,(by rw[ax];rfl),dU,(by rw[aY];rfl),gE,(by rw[bN];rfl),lg,dQ,vF,(by rw[hj];rfl),hB,(RT x ak r.bp ((cK x r.key r.val).1) ((cK x r.key r.val).2.1) _),aa⟩
     skip
     rw[show dB g cs r x=(((cT x.kind cs (⟨r.op,r.bp.bc,r.key,r.val⟩:Cell)).1),([]:List aB),true) from by grind[dB,fC,cT]];exact acb ⟨(by grind),(by grind),(by grind[cm,dR,dA,Cell.flat,aI]),c1,rfl,c2,(by rw[ax];rfl),dU,(by rw[aY];rfl),gE,(by rw[bN];rfl),lg,dQ,vF,(by rw[hj];rfl),aa⟩
    skip
    rcases cD (x.kind==7) with iJ | iJ
    ·skip
     have Bi:=w6 r.bp;rcases cD ((eI r.bp).2) with pY | pY
     ·skip
      
      rw[show dB g cs r x=(cs,(hL x ((eI r.bp).1) ((cK x r.key r.val).1) ((cK x r.key r.val).2.1)),true) from by grind[dB,fC,cT]];exact abp ⟨(by grind),(by grind),(by grind[cm,dR,dA,Cell.flat,aI]),c1,rfl,c2,(by rw[ax];rfl),dU,(by rw[aY];rfl),gE,(by rw[bN];rfl),lg,dQ,iJ,Bi,(by rw[pY];rfl),(RU x ak ((eI r.bp).1) ((cK x r.key r.val).1) ((cK x r.key r.val).2.1) _),aa⟩
     skip
     rw[show dB g cs r x=(cs,([]:List aB),true) from by grind[dB,fC,cT]];exact acg ⟨(by grind),(by grind),(by grind[cm,dR,dA,Cell.flat,aI]),c1,rfl,c2,(by rw[ax];rfl),dU,(by rw[aY];rfl),gE,(by rw[bN];rfl),lg,dQ,iJ,Bi,(by rw[pY];rfl),aa⟩
    skip
    
    rw[show dB g cs r x=(cs,(hL x r.bp ((cK x r.key r.val).1) ((cK x r.key r.val).2.1)),true) from by grind[dB,fC,cT]];exact abq ⟨(by grind),(by grind),(by grind[cm,dR,dA,Cell.flat,aI]),c1,rfl,c2,(by rw[ax];rfl),dU,(by rw[aY];rfl),gE,(by rw[bN];rfl),lg,dQ,iJ,(RV x ak r.bp ((cK x r.key r.val).1) ((cK x r.key r.val).2.1) _),aa⟩
   skip
   rcases cD (x.kind != 8) with gq | gq
   ·skip
    rw[show dB g cs r x=(cs,([]:List aB),true) from by grind[dB,fC,cT]];exact abV ⟨(by grind),(by grind),(by grind[cm,dR,dA,Cell.flat,aI]),c1,rfl,c2,(by rw[ax];rfl),dU,(by rw[aY];rfl),gE,(by rw[bN];rfl),gq,aa⟩
   skip
   have ia:=Qo x.kind;rcases cD (fC x.kind) with eM | eM
   ·skip
    have lO:=Qq x.kind cs (⟨r.op,r.bp.bc,r.key,r.val⟩:Cell) (by omega);rcases cD ((cT x.kind cs (⟨r.op,r.bp.bc,r.key,r.val⟩:Cell)).2) with km | km
    ·skip
     rcases cD (x.kind==7) with jd | jd
     ·skip
      have Mq:=w6 r.bp;rcases cD ((eI r.bp).2) with oL | oL
      ·skip
       
       rw[show dB g cs r x=(((cT x.kind cs (⟨r.op,r.bp.bc,r.key,r.val⟩:Cell)).1),(hL x ((eI r.bp).1) ((cK x r.key r.val).1) ((cK x r.key r.val).2.1)),true) from by grind[dB,fC,cT]];exact ab0 ⟨(by first | omega | (simp only[cm,dR];omega) | exact dA _ Cell.flat _ | grind[aI]),(by first | omega | (simp only[cm,dR];omega) | exact dA _ Cell.flat _ | grind[aI]),(by first | omega | (simp only[cm,dR];omega) | exact dA _ Cell.flat _ | grind[aI]),c1,rfl,c2,(by rw[ax];rfl),dU,(by rw[aY];rfl),gE,(by rw[bN];rfl),gq,ia,eM,lO,(by rw[km];rfl),jd,Mq,(by rw[oL];rfl),(RS x ak ((eI r.bp).1) ((cK x r.key r.val).1) ((cK x r.key r.val).2.1) _),aa⟩
      skip
      rw[show dB g cs r x=(((cT x.kind cs (⟨r.op,r.bp.bc,r.key,r.val⟩:Cell)).1),([]:List aB),true) from by grind[dB,fC,cT]];exact abX ⟨(by first | omega | (simp only[cm,dR];omega) | exact dA _ Cell.flat _ | grind[aI]),(by first | omega | (simp only[cm,dR];omega) | exact dA _ Cell.flat _ | grind[aI]),(by first | omega | (simp only[cm,dR];omega) | exact dA _ Cell.flat _ | grind[aI]),c1,rfl,c2,(by rw[ax];rfl),dU,(by rw[aY];rfl),gE,(by rw[bN];rfl),gq,ia,eM,lO,(by rw[km];rfl),jd,Mq,(by rw[oL];rfl),aa⟩
     skip
     
     rw[show dB g cs r x=(((cT x.kind cs (⟨r.op,r.bp.bc,r.key,r.val⟩:Cell)).1),(hL x r.bp ((cK x r.key r.val).1) ((cK x r.key r.val).2.1)),true) from by grind[dB,fC,cT]];exact ab3 ⟨(by grind),(by grind),(by grind[cm,dR,dA,Cell.flat,aI]),c1,rfl,c2,(by rw[ax];rfl),dU,(by rw[aY];rfl),gE,(by rw[bN];rfl),gq,ia,eM,lO,(by rw[km];rfl),jd,(RT x ak r.bp ((cK x r.key r.val).1) ((cK x r.key r.val).2.1) _),aa⟩
    skip
    rw[show dB g cs r x=(((cT x.kind cs (⟨r.op,r.bp.bc,r.key,r.val⟩:Cell)).1),([]:List aB),true) from by grind[dB,fC,cT]];exact abW ⟨(by grind),(by grind),(by grind[cm,dR,dA,Cell.flat,aI]),c1,rfl,c2,(by rw[ax];rfl),dU,(by rw[aY];rfl),gE,(by rw[bN];rfl),gq,ia,eM,lO,(by rw[km];rfl),aa⟩
   skip
   rcases cD (x.kind==7) with oM | oM
   ·skip
    have Mr:=w6 r.bp;rcases cD ((eI r.bp).2) with mG | mG
    ·skip
     
     rw[show dB g cs r x=(cs,(hL x ((eI r.bp).1) ((cK x r.key r.val).1) ((cK x r.key r.val).2.1)),true) from by grind[dB,fC,cT]];exact ab7 ⟨(by first | omega | (simp only[cm,dR];omega) | exact dA _ Cell.flat _ | grind[aI]),(by first | omega | (simp only[cm,dR];omega) | exact dA _ Cell.flat _ | grind[aI]),(by first | omega | (simp only[cm,dR];omega) | exact dA _ Cell.flat _ | grind[aI]),c1,rfl,c2,(by rw[ax];rfl),dU,(by rw[aY];rfl),gE,(by rw[bN];rfl),gq,ia,eM,oM,Mr,(by rw[mG];rfl),(RU x ak ((eI r.bp).1) ((cK x r.key r.val).1) ((cK x r.key r.val).2.1) _),aa⟩
    skip
    rw[show dB g cs r x=(cs,([]:List aB),true) from by grind[dB,fC,cT]];exact ab4 ⟨(by first | omega | (simp only[cm,dR];omega) | exact dA _ Cell.flat _ | grind[aI]),(by first | omega | (simp only[cm,dR];omega) | exact dA _ Cell.flat _ | grind[aI]),(by first | omega | (simp only[cm,dR];omega) | exact dA _ Cell.flat _ | grind[aI]),c1,rfl,c2,(by rw[ax];rfl),dU,(by rw[aY];rfl),gE,(by rw[bN];rfl),gq,ia,eM,oM,Mr,(by rw[mG];rfl),aa⟩
   skip
   
   rw[show dB g cs r x=(cs,(hL x r.bp ((cK x r.key r.val).1) ((cK x r.key r.val).2.1)),true) from by grind[dB,fC,cT]];exact aca ⟨(by grind),(by grind),(by grind[cm,dR,dA,Cell.flat,aI]),c1,rfl,c2,(by rw[ax];rfl),dU,(by rw[aY];rfl),gE,(by rw[bN];rfl),gq,ia,eM,oM,(RV x ak r.bp ((cK x r.key r.val).1) ((cK x r.key r.val).2.1) _),aa⟩
  skip
  rw[show dB g cs r x=(cs,([]:List aB),false) from by grind[dB,fC,cT]];exact abU ⟨(by grind),(by grind),(by grind[cm,dR,dA,Cell.flat,aI]),c1,rfl,c2,(by rw[ax];rfl),dU,(by rw[aY];rfl),aa⟩
 skip
 rw[show dB g cs r x=(cs,([]:List aB),false) from by grind[dB,fC,cT]];exact abT ⟨(by grind),(by grind),(by grind[cm,dR,dA,Cell.flat,aI]),c1,rfl,c2,(by rw[ax];rfl),aa⟩
theorem abP(g:bR)(cs:List Cell)(r:aB)(x:Node)(av:g.sz<=8388608)(ap:cs.length<=8388608)(a8:fF g r.op=some x):ar 232 [.agg g.e,.one (.J 4 (cs.map Cell.e)),.agg r.e] [.one (.J 4 ((dB g cs r x).1.map Cell.e)),.one (.J 5 ((dB g cs r x).2.1.map aB.e)),.one (B (dB g cs r x).2.2)]:=by
 have ak:=bR.yR av (J3 a8);obtain⟨l0,rf,_,_⟩:=CX a8;have dd:g.nodes[r.op.toNat]?=some x:=by simp_all[fF,bM]
 have c1:=w8 g av;rcases cD (dY g) with U | U
 ·skip
  have cu:=uM r;rcases cD (eR r) with aJ | aJ
  ·skip
   have fJ:=w5 g r.op true (by rw[a8];rfl) av;have gE:=YU x r.key r.val ak;rcases cD ((cK x r.key r.val).2.2) with bN | bN
   ·skip
    have lg:=Qr x.kind cs (⟨r.op,r.bp.bc,r.key,r.val⟩:Cell) (by omega);rcases cD ((cT x.kind cs (⟨r.op,r.bp.bc,r.key,r.val⟩:Cell)).2) with dQ | dQ
    ·skip
     rcases cD (x.kind==7) with dy | dy
     ·skip
      have oG:=J' r.bp
      
      rw[show dB g cs r x=(((cT x.kind cs (⟨r.op,r.bp.bc,r.key,r.val⟩:Cell)).1),(bif (eI r.bp).2 then hL x ((eI r.bp).1) ((cK x r.key r.val).1) ((cK x r.key r.val).2.1) else []),true) from by grind[dB,fC,cT]];exact abC ⟨c1,(by rw[U];rfl),cu,(by rw[aJ];rfl),fJ,rfl,(by grind),(by grind),(bC Node.e dd),gE,(by rw[bN];rfl),lg,(by rw[dQ];rfl),dy,oG,(RX x ak ((eI r.bp).2) ((eI r.bp).1) ((cK x r.key r.val).1) ((cK x r.key r.val).2.1) _),aa⟩
     skip
     
     rw[show dB g cs r x=(((cT x.kind cs (⟨r.op,r.bp.bc,r.key,r.val⟩:Cell)).1),(hL x r.bp ((cK x r.key r.val).1) ((cK x r.key r.val).2.1)),true) from by grind[dB,fC,cT]];exact abD ⟨c1,(by rw[U];rfl),cu,(by rw[aJ];rfl),fJ,rfl,(by grind),(by grind),(bC Node.e dd),gE,(by rw[bN];rfl),lg,(by rw[dQ];rfl),dy,(RW x ak r.bp ((cK x r.key r.val).1) ((cK x r.key r.val).2.1) _),aa⟩
    skip
    rw[show dB g cs r x=(((cT x.kind cs (⟨r.op,r.bp.bc,r.key,r.val⟩:Cell)).1),([]:List aB),true) from by grind[dB,fC,cT]];exact abB ⟨c1,(by rw[U];rfl),cu,(by rw[aJ];rfl),fJ,rfl,(by grind),(by grind),(bC Node.e dd),gE,(by rw[bN];rfl),lg,(by rw[dQ];rfl),aa⟩
   skip
   rcases cD (x.kind != 8) with hB | hB
   ·skip
    have lN:=td cs (by omega);rw[show dB g cs r x=(cs,([]:List aB),true) from by grind[dB,fC,cT]];exact abt ⟨c1,(by rw[U];rfl),cu,(by rw[aJ];rfl),fJ,rfl,(by grind),(by grind),(bC Node.e dd),gE,(by rw[bN];rfl),hB,lN,aa⟩
   skip
   have E4:=Qr x.kind cs (⟨r.op,r.bp.bc,r.key,r.val⟩:Cell) (by omega);rcases cD ((cT x.kind cs (⟨r.op,r.bp.bc,r.key,r.val⟩:Cell)).2) with iJ | iJ
   ·skip
    rcases cD (x.kind==7) with cp | cp
    ·skip
     have kM:=J' r.bp
     
     rw[show dB g cs r x=(((cT x.kind cs (⟨r.op,r.bp.bc,r.key,r.val⟩:Cell)).1),(bif (eI r.bp).2 then hL x ((eI r.bp).1) ((cK x r.key r.val).1) ((cK x r.key r.val).2.1) else []),true) from by grind[dB,fC,cT]];exact abx ⟨c1,(by rw[U];rfl),cu,(by rw[aJ];rfl),fJ,rfl,(by first | omega | (simp only[cm,dR];omega) | exact dA _ Cell.flat _ | grind[aI]),(by first | omega | (simp only[cm,dR];omega) | exact dA _ Cell.flat _ | grind[aI]),(bC Node.e dd),gE,(by rw[bN];rfl),hB,E4,(by rw[iJ];rfl),cp,kM,(RX x ak ((eI r.bp).2) ((eI r.bp).1) ((cK x r.key r.val).1) ((cK x r.key r.val).2.1) _),aa⟩
    skip
    
    rw[show dB g cs r x=(((cT x.kind cs (⟨r.op,r.bp.bc,r.key,r.val⟩:Cell)).1),(hL x r.bp ((cK x r.key r.val).1) ((cK x r.key r.val).2.1)),true) from by grind[dB,fC,cT]];exact abA ⟨c1,(by rw[U];rfl),cu,(by rw[aJ];rfl),fJ,rfl,(by grind),(by grind),(bC Node.e dd),gE,(by rw[bN];rfl),hB,E4,(by rw[iJ];rfl),cp,(RW x ak r.bp ((cK x r.key r.val).1) ((cK x r.key r.val).2.1) _),aa⟩
   skip
   rw[show dB g cs r x=(((cT x.kind cs (⟨r.op,r.bp.bc,r.key,r.val⟩:Cell)).1),([]:List aB),true) from by grind[dB,fC,cT]];exact abu ⟨c1,(by rw[U];rfl),cu,(by rw[aJ];rfl),fJ,rfl,(by grind),(by grind),(bC Node.e dd),gE,(by rw[bN];rfl),hB,E4,(by rw[iJ];rfl),aa⟩
  skip
  have VF:=td cs (by omega);rw[show dB g cs r x=(cs,([]:List aB),false) from by grind[dB,fC,cT]];exact Qm ⟨c1,(by rw[U];rfl),cu,(by rw[aJ];rfl),VF,aa⟩
 skip
 have ia:=td cs (by omega);rw[show dB g cs r x=(cs,([]:List aB),false) from by grind[dB,fC,cT]];exact Ql ⟨c1,(by rw[U];rfl),ia,aa⟩
end Go.Proofs.YtdchjefneblpgaaGreat
namespace Go.Proofs.YtdchjefneblpgaaGreat
open Go.Sx Go.RowKit Go.Proofs.Tryz
def dv(g:bR)(cs:List Cell)(r:aB):List Cell×List aB×Bool:=match fF g r.op with | some x=>dB g cs r x | none=>(cs,[],false)
theorem RY(g:bR)(cs:List Cell)(r:aB)(av:g.sz<=8388608)(ap:cs.length<=8388608):ar 176 [.agg g.e,.one (.J 4 (cs.map Cell.e)),.agg r.e] [.one (.J 4 ((dv g cs r).1.map Cell.e)),.one (.J 5 ((dv g cs r).2.1.map aB.e)),.one (B (dv g cs r).2.2)]:=by
 unfold dv;cases h:fF g r.op with
 | some x=>exact abO g cs r x av ap h
 | none=>exact abS ⟨by simp<;>omega,by simp<;>omega,dA _ Cell.flat _,CZ g r.op (⟨0,0,0,[]⟩,false) (by unfold te;rw[h]) av,rfl,aa⟩
theorem abf(g:bR)(cs:List Cell)(r:aB)(av:g.sz<=8388608)(ap:cs.length<=8388608):ar 232 [.agg g.e,.one (.J 4 (cs.map Cell.e)),.agg r.e] [.one (.J 4 ((dv g cs r).1.map Cell.e)),.one (.J 5 ((dv g cs r).2.1.map aB.e)),.one (B (dv g cs r).2.2)]:=by
 unfold dv;cases h:fF g r.op with
 | some x=>exact abP g cs r x av ap h
 | none=>
  have c1:=w8 g av;have c2:=uM r;have cu:=w5 g r.op false (by rw[h];rfl) av;have dL:=td cs ap;generalize dY g=gC at*;generalize eR r=fQ at*;cases gC with
  | false=>exact Ql ⟨c1,rfl,dL,aa⟩
  | true=>
   cases fQ with
   | false=>exact Qm ⟨c1,rfl,c2,rfl,dL,aa⟩
   | true=>exact abr ⟨c1,rfl,c2,rfl,cu,rfl,dL,aa⟩
def jl(g:bR)(r:aB)(x:Node):Bool:=dY g&&eR r&&x.kind==7&&decide (0<x.outs.length)&&!(eI r.bp).2
def dm(g:bR)(r:aB):Bool:=match fF g r.op with | some x=>jl g r x | none=>false
theorem abg(g:bR)(r:aB)(x:Node)(av:g.sz<=8388608)(a8:fF g r.op=some x):ar 177 [.agg g.e,.agg r.e] [.one (B (jl g r x))]:=by
 have c1:=CZ g r.op (x,true) (by unfold te;rw[a8]) av;have c2:=w6 r.bp;have cu:=w7 g av;rcases cD (dY g) with aJ | aJ
 ·skip
  have fJ:=rT r;rcases cD (eR r) with bx | bx
  ·skip
   rcases cD (x.kind==7) with bN | bN
   ·skip
    rcases cD (decide ((↑(x.outs.map a6).length:Int)>0)) with db | db
    ·skip
     rw[show jl g r x=(!((eI r.bp).2)) from by grind[jl]];exact aak ⟨c1,c2,rfl,cu,aJ,fJ,bx,bN,db,aa⟩
    skip
    rw[show jl g r x=false from by grind[jl]];exact aal ⟨c1,c2,rfl,cu,aJ,fJ,bx,bN,db,aa⟩
   skip
   rw[show jl g r x=false from by grind[jl]];exact aam ⟨c1,c2,rfl,cu,aJ,fJ,bx,bN,aa⟩
  skip
  rw[show jl g r x=false from by grind[jl]];exact aan ⟨c1,c2,rfl,cu,aJ,fJ,bx,aa⟩
 skip
 rw[show jl g r x=false from by grind[jl]];exact abQ ⟨c1,c2,rfl,cu,aJ,aa⟩
theorem RZ(g:bR)(r:aB)(av:g.sz<=8388608):ar 177 [.agg g.e,.agg r.e] [.one (B (dm g r))]:=by
 unfold dm;cases h:fF g r.op with
 | some x=>exact abg g r x av h
 | none=>exact abR ⟨CZ g r.op (⟨0,0,0,[]⟩,false) (by unfold te;rw[h]) av,w6 r.bp,rfl,aa⟩
theorem JB{g:bR}(h:dY g=true){op:Int}{x:Node}(a8:fF g op=some x):aN x=true:=by
 simp only[dY,cF,h8]at h;unfold fF at a8;split at a8
 ·have:=CG h.2 op.toNat x a8;simp only[iw,gn,kg]at this;exact this.1.1
 cases a8
theorem abh{x:Node}(h:aN x=true):x.outs.length<=2:=by
 simp only[aN,cF,cW]at h;exact h.1.1.1.2
theorem abi(kind:Int)(cs:List Cell)(x:Cell):(cT kind cs x).1.length<=cs.length+1:=by
 have h1:=Re cs x;have U:=Re (cs.filter fun a=>!eJ x a) x;have ax:=qK (fun a=>!eJ x a) cs;unfold cT;split
 ·split<;>simp<;>omega
 split
 ·unfold ix;split<;>simp<;>omega
 simp
theorem abj{g:bR}(av:dY g=true)(cs:List Cell)(r:aB):(dv g cs r).1.length<=cs.length+1/\(dv g cs r).2.1.length<=2:=by
 unfold dv;cases h:fF g r.op with
 | none=>exact⟨by simp,by simp⟩
 | some x=>
  have ak:=abh (JB av h);have aH:=abi x.kind cs ⟨r.op,r.bp.bc,r.key,r.val⟩;have ai:∀s k v,(hL x s k v).length<=2:=fun s k v=>by simpa[hL]using ak
  simp only[dB];split
  ·split
   ·exact⟨by simp,by simp⟩
   split
   ·exact⟨aH,by simp⟩
   split
   ·refine⟨aH,?_⟩;cases (eI r.bp).2 with
    | true=>exact ai _ _ _
    | false=>simp
   exact⟨aH,ai _ _ _⟩
  exact⟨by simp,by simp⟩
