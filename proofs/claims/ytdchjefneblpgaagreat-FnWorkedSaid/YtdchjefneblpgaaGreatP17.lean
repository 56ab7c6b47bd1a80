import Derived.Test.YtdchjefneblpgaaGreatP16
import Derived.Test.YtdchjefneblpgaaGreatGS
set_option linter.unusedVariables false
set_option linter.unusedSimpArgs false
namespace Go.Proofs.YtdchjefneblpgaaGreat
open Go.Sx Go.RowKit Go.Proofs.Tryz
theorem abO{P:Program}{f:Nat}{args:List GA}{k:Nat}{l fU:List (List D)}(h:kj P f args [.one (.J k l)])(ap:l=fU):kj P f args [.one (.J k fU)]:=ap▸h
theorem JB(xs:List Cell)(p:Cell->Bool)(g:Nat)(br:List D)(ap:xs.length<=8388608)(al:iv prog g=true)(hp:∀x∈xs,∀r,p x=r->ar g ([.agg x.e]++br.map .one) [.one (B r)]):
  ∀(n i:Nat) (ys:List Cell),n+i=xs.length->ys.length=xs.length->ys.drop i=xs.drop i->ys.take ((xs.take i).filter fun a=>!p a).length=(xs.take i).filter (fun a=>!p a)->
  ∃zs:List Cell,cW prog (ao f345 0) (td g br i ((xs.take i).filter fun a=>!p a).length (ys.map Cell.e)) (.exit 0) (JW (zs.map Cell.e) (xs.filter fun a=>!p a).length)/\zs.length=xs.length/\zs.take (xs.filter fun a=>!p a).length=xs.filter (fun a=>!p a)
 | 0,i,ys,hi,bD,_,bU=>by
  have e:xs.take i=xs:=xr (by omega);rw[e]at bU ⊢;exact⟨ys,.last (cH 0) (anH ⟨eL (by simp;omega),aa⟩),bD,bU⟩
 | n+1,i,ys,hi,bD,aG,bU=>by
  obtain⟨a,ag⟩:=cS (xs:=xs) (i:=i) (by omega);have NB:ys[i]?=some a:=by
   have e1:ys[i]?=(ys.drop i)[0]?:=by simp
   grind
  have b0:=yZ (fun a=>!p a) ag;have hle:=JZ (fun a=>!p a) xs i;have BI:ys.drop (i+1)=xs.drop (i+1):=by
   have:=congrArg (List.drop 1) aG;grind[List.drop_drop,Nat.add_comm]
  cases h:p a with
  | true=>
   rw[h]at b0;simp only[iY,oz,lN,lc]at b0;obtain⟨zs,h1,U,ax⟩:=JB xs p g br ap al hp n (i+1) ys (by omega) bD BI (by grind);rw[b0]at h1;exact⟨zs,.more (anG ⟨dM (by simp;omega),bw,by simp;omega,bA Cell.e NB,al,hp a (eA ag) true h,rfl,⟨by omega,by omega⟩,aa⟩) h1,U,ax⟩
  | false=>
   rw[h]at b0;simp only[nG,gC]at b0;generalize bg:((xs.take i).filter fun a=>!p a).length=j at*;obtain⟨b,aw⟩:=cS (xs:=ys) (i:=j) (by omega);obtain⟨zs,h1,U,ax⟩:=JB xs p g br ap al hp n (i+1) (ys.set j a) (by omega) (by grind) (by grind[List.drop_set_of_lt]) (by
    rw[b0,kI,bg,List.length_singleton,List.take_set,<-bU];have jR:j<ys.length:=by omega
    simp_all[List.take_succ_eq_append_getElem,List.set_append_right,tH,Nat.min_eq_left,Nat.le_of_lt])
   rw[b0,kI,bg,List.length_singleton]at h1;refine⟨zs,.more (K6 (fun l=>td g br ((i+1:Nat):Int) ((j+1:Nat):Int) l) (amc ⟨dM (by simp;omega),bw,by simp;omega,bA Cell.e NB,al,hp a (eA ag) false h,rfl,bw,by simp;omega,bA Cell.e aw,⟨by omega,by omega⟩,⟨by omega,by omega⟩,aa⟩) ?_) h1,U,ax⟩;show List.set _ _ a.e=_;simp_all
theorem abP(xs:List Cell)(p:Cell->Bool)(g:Nat)(br:List D)(ap:xs.length<=8388608)(al:iv prog g=true)(hp:∀x∈xs,ar g ([.agg x.e]++br.map .one) [.one (B (p x))]):
  kj prog 345 [.one (.eV 4 (xs.map Cell.e) none),.one (.ro (.cl g br))] [.one (.J 4 ((xs.filter fun a=>!p a).map Cell.e))]:=by
 have o4:∀x∈xs,∀r,p x=r->ar g ([.agg x.e]++br.map .one) [.one (B r)]:=fun x ak r h=>h▸hp x ak
 have o':=aoK xs p g br ap al hp;unfold rv at o';cases h:xs.findIdx? p with
 | none=>
  rw[h]at o';rw[EL]at h;have e:(xs.filter fun a=>!p a)=xs:=List.filter_eq_self.2 fun a ag=>by simp[h a ag]
  rw[e];exact amb ⟨o',rfl,aa⟩
 | some i=>
  rw[h]at o';change hA _ _ _ [.one (I (i:Int))]at o';rw[tG]at h;obtain⟨hi,U,ax⟩:=h;have ak:xs[i]?=some xs[i]:=iZ hi;have bB:(xs.take i).filter (fun a=>!p a)=xs.take i:=List.filter_eq_self.2 fun a ag=>by
   grind[List.getElem_of_mem]
  have e1:=yZ (fun a=>!p a) ak;rw[U]at e1;simp only[iY,oz,lN,lc]at e1;rw[bB]at e1;have e2:(xs.take i).length=i:=by grind
  obtain⟨zs,l,bk,bU⟩:=JB xs p g br ap al o4 (xs.length-(i+1)) (i+1) xs (by omega) rfl rfl (by rw[e1,e2]);rw[e1,e2]at l;have bJ:(xs.filter fun a=>!p a).length<xs.length:=by
   grind[Vn,List.filter_append,kI,qK,List.length_drop]
  generalize xs.filter (fun a=>!p a)=ew at*;refine abO (anI ⟨o',xt.2 (by omega),⟨by omega,by omega⟩,l,by simp,by simp;omega,dA _ Cell.flat _,by simp,by simp,by simp;omega,aa⟩) ?_;simp only[jM,pP,Nat.sub_zero,vB,<-qQ];grind
def fC(k:Int):Bool:=k==5||k==6||k==8
def ix(xs:List Cell)(x:Cell):List Cell×Bool:=
 if (pB xs x.op x.bc x.key).2&&decide ((pB xs x.op x.bc x.key).1<=x.val) then (xs,false) else (jG (xs.filter fun a=>!eJ x a) x,true)
def cT(kind:Int)(xs:List Cell)(x:Cell):List Cell×Bool:=
 if kind=6 then (if nq xs x then (xs,false) else (jG xs x,true))
 else if kind=5\/kind=8 then ix xs x
 else (xs,true)
theorem Qq(k:Int):ar 268 [.one (I k)] [.one (B (fC k))]:=by
 rcases cD (k==5) with h1 | h1
 ·skip
  rw[show fC k=true from by grind[fC]];exact anu ⟨h1,aa⟩
 skip
 rcases cD (k==6) with U | U
 ·skip
  rw[show fC k=true from by grind[fC]];exact anv ⟨h1,U,aa⟩
 skip
 rw[show fC k=(k==8) from by grind[fC]];exact anw ⟨h1,U,aa⟩
theorem Qr(xs:List Cell)(x:Cell)(ap:xs.length<=8388608):ar 318 [.one (.J 4 (xs.map Cell.e)),.agg x.e] [.one (.J 4 ((ix xs x).1.map Cell.e)),.one (B (ix xs x).2)]:=by
 have c:=Y1 xs x.op x.bc x.key ap;have dL:=te xs ap;have d:=abP xs (eJ x) 346 [D.ptr x.e] ap (by kernel_rfl) (fun y _=>ama ⟨QH x y,aa⟩);have NZ:=Qv (xs.filter fun a=>!eJ x a) x (sc (qK ..) ap);unfold ix;generalize pB xs x.op x.bc x.key=m at*;obtain⟨v,f⟩:=m;cases f with
 | false=>exact anR ⟨c,rfl,dL,d,NZ,aa⟩
 | true=>
  by_cases h:v<=x.val
  ·rw[dM h];exact anP ⟨c,rfl,dM h,dL,aa⟩
  rw[eL h];exact anQ ⟨c,rfl,eL h,dL,d,NZ,aa⟩
theorem abQ(xs acc:List Cell)(x:Cell)(ap:xs.length<=8388608)(i:Nat)(al:acc.length<=i)(a:Cell)(ag:xs[i]?=some a):gf prog (ao f269 0) (kA (xs.map Cell.e) x.op x.bc x.key x.val i (acc.map Cell.e)) .normal (kA (xs.map Cell.e) x.op x.bc x.key x.val ((i+1:Nat):Int) ((acc++(bif eJ x a then [] else [a])).map Cell.e)):=by
 have bg:=a1 ag;have dd:xs[(i:Int).toNat]?=some a:=by grind
 have dV:decide ((i:Int)<(↑(xs.map Cell.e).length:Int))=true:=b6 bg;rcases cD (a.op != x.op) with h1 | h1
 ·skip
  have ai:eJ x a=false:=by grind[eJ]
  rw[ai];rw[show (acc++(bif false then [] else [a])).map Cell.e=acc.map Cell.e++[a.e] from by simp];exact anB ⟨dV,(by grind),(by grind),(bC Cell.e dd),h1,(by grind),(by grind),(bC Cell.e dd),(by grind),(by grind),(by grind[cf,gP,dR,fV]),(by first | omega | (simp only[cf,gP,dR];omega) | exact fV a.flat | (exact⟨by omega,by omega⟩)),aa⟩
 skip
 rcases cD (a.bc != x.bc) with U | U
 ·skip
  have ai:eJ x a=false:=by grind[eJ]
  rw[ai];rw[show (acc++(bif false then [] else [a])).map Cell.e=acc.map Cell.e++[a.e] from by simp];exact anC ⟨dV,(by grind),(by grind),(bC Cell.e dd),h1,(by grind),(by grind),(bC Cell.e dd),U,(by grind),(by grind),(bC Cell.e dd),(by grind),(by grind),(by grind[cf,gP,dR,fV]),(by first | omega | (simp only[cf,gP,dR];omega) | exact fV a.flat | (exact⟨by omega,by omega⟩)),aa⟩
 skip
 rcases cD (a.key != x.key) with ax | ax
 ·skip
  have ai:eJ x a=false:=by grind[eJ]
  rw[ai];rw[show (acc++(bif false then [] else [a])).map Cell.e=acc.map Cell.e++[a.e] from by simp];exact anD ⟨dV,(by grind),(by grind),(bC Cell.e dd),h1,(by grind),(by grind),(bC Cell.e dd),U,(by grind),(by grind),(bC Cell.e dd),ax,(by grind),(by grind),(bC Cell.e dd),(by grind),(by grind),(by grind[cf,gP,dR,fV]),(by first | omega | (simp only[cf,gP,dR];omega) | exact fV a.flat | (exact⟨by omega,by omega⟩)),aa⟩
 skip
 have ai:eJ x a=true:=by grind[eJ]
 rw[ai];rw[show (acc++(bif true then [] else [a])).map Cell.e=acc.map Cell.e from by simp];exact anE ⟨dV,(by grind),(by grind),(bC Cell.e dd),h1,(by grind),(by grind),(bC Cell.e dd),U,(by grind),(by grind),(bC Cell.e dd),ax,(by first | omega | (simp only[cf,gP,dR];omega) | exact fV a.flat | (exact⟨by omega,by omega⟩)),aa⟩
theorem abR(p:Cell->Bool){xs:List Cell}{i:Nat}{a:Cell}(h:xs[i]?=some a):(xs.take (i+1)).filter (fun b=>!p b)=(xs.take i).filter (fun b=>!p b)++(bif p a then [] else [a]):=by
 rw[yZ _ h];grind
theorem Dy(xs:List Cell)(x:Cell)(ap:xs.length<=8388608):cW prog (ao f269 0) (kA (xs.map Cell.e) x.op x.bc x.key x.val 0 []) (.exit 1) (w4 x.op x.bc x.key x.val ((xs.filter fun a=>!eJ x a).map Cell.e)):=by
 have l:=eN (P:=prog) (c:=(ao f269 0)) (cH 1) xs.length (fun i:Nat=>kA (xs.map Cell.e) x.op x.bc x.key x.val i (((xs.take i).filter fun a=>!eJ x a).map Cell.e)) (fun i hi=>by
  obtain⟨a,ag⟩:=cS hi;rw[abR (eJ x) ag];grind[abQ,JZ]) (anF ⟨dz,aa⟩)
 grind
theorem Qs(kind:Int)(xs:List Cell)(x:Cell)(ap:xs.length<=8388608):ar 269 [.one (I kind),.one (.J 4 (xs.map Cell.e)),.agg x.e] [.one (.J 4 (((cT kind xs x).1).map Cell.e)),.one (B ((cT kind xs x).2))]:=by
 have b0:=qK (fun a=>!eJ x a) xs;rcases cD (kind==6) with h1 | h1
 ·skip
  have c2:=Rh xs x (by omega);rcases cD (nq xs x) with ax | ax
  ·skip
   rw[show cT kind xs x=(xs,false) from by grind[cT,ix]];exact anx ⟨(by grind),(by grind),(by grind[cf,dR,dA,Cell.flat,aJ]),h1,c2,ax,aa⟩
  skip
  have dU:=zO xs x (by omega);rw[show cT kind xs x=((jG xs x),true) from by grind[cT,ix]];exact anz ⟨(by grind),(by grind),(by grind[cf,dR,dA,Cell.flat,aJ]),h1,c2,ax,dU,aa⟩
 skip
 rcases cD (kind==5) with aX | aX
 ·skip
  have gF:=QI xs x.op x.bc x.key (by omega);rcases cD ((pB xs x.op x.bc x.key).2) with bN | bN
  ·skip
   rcases cD (decide (((pB xs x.op x.bc x.key).1)<=x.val)) with db | db
   ·skip
    rw[show cT kind xs x=(xs,false) from by grind[cT,ix]];exact anA ⟨(by grind),(by grind),(by grind[cf,dR,dA,Cell.flat,aJ]),h1,aX,aX,gF,bN,db,aa⟩
   skip
   
   have VH:=zO (xs.filter fun a=>!eJ x a) x (by omega);rw[show cT kind xs x=((jG (xs.filter fun a=>!eJ x a) x),true) from by grind[cT,ix]];exact am3 ⟨(by grind),(by grind),(by grind[cf,dR,dA,Cell.flat,aJ]),h1,aX,aX,gF,bN,db,(Dy xs x ap),VH,aa⟩
  skip
  
  have vH:=zO (xs.filter fun a=>!eJ x a) x (by omega);rw[show cT kind xs x=((jG (xs.filter fun a=>!eJ x a) x),true) from by grind[cT,ix]];exact am4 ⟨(by grind),(by grind),(by grind[cf,dR,dA,Cell.flat,aJ]),h1,aX,aX,gF,bN,(Dy xs x ap),vH,aa⟩
 skip
 rcases cD (kind==8) with hn | hn
 ·skip
  have mD:=QI xs x.op x.bc x.key (by omega);rcases cD ((pB xs x.op x.bc x.key).2) with ss | ss
  ·skip
   rcases cD (decide (((pB xs x.op x.bc x.key).1)<=x.val)) with kl | kl
   ·skip
    rw[show cT kind xs x=(xs,false) from by grind[cT,ix]];exact am5 ⟨(by grind),(by grind),(by grind[cf,dR,dA,Cell.flat,aJ]),h1,aX,hn,mD,ss,kl,aa⟩
   skip
   
   have VF:=zO (xs.filter fun a=>!eJ x a) x (by omega);rw[show cT kind xs x=((jG (xs.filter fun a=>!eJ x a) x),true) from by grind[cT,ix]];exact am6 ⟨(by grind),(by grind),(by grind[cf,dR,dA,Cell.flat,aJ]),h1,aX,hn,mD,ss,kl,(Dy xs x ap),VF,aa⟩
  skip
  
  have Bk:=zO (xs.filter fun a=>!eJ x a) x (by omega);rw[show cT kind xs x=((jG (xs.filter fun a=>!eJ x a) x),true) from by grind[cT,ix]];exact am7 ⟨(by grind),(by grind),(by grind[cf,dR,dA,Cell.flat,aJ]),h1,aX,hn,mD,ss,(Dy xs x ap),Bk,aa⟩
 skip
 rw[show cT kind xs x=(xs,true) from by grind[cT,ix]];exact am8 ⟨(by grind),(by grind),(by grind[cf,dR,dA,Cell.flat,aJ]),h1,aX,hn,aa⟩
theorem Qt(kind:Int)(xs:List Cell)(x:Cell)(ap:xs.length<=8388608):ar 299 [.one (I kind),.one (.J 4 (xs.map Cell.e)),.agg x.e] [.one (.J 4 (((cT kind xs x).1).map Cell.e)),.one (B ((cT kind xs x).2))]:=by
 rcases cD (kind==5) with h1 | h1
 ·skip
  have c2:=Qr xs x (by omega);rw[show cT kind xs x=(((ix xs x).1),(ix xs x).2) from by grind[cT,ix,jG]];exact anS ⟨h1,h1,c2,aa⟩
 skip
 rcases cD (kind==8) with ax | ax
 ·skip
  have dU:=Qr xs x (by omega);rw[show cT kind xs x=(((ix xs x).1),(ix xs x).2) from by grind[cT,ix,jG]];exact anT ⟨h1,ax,dU,aa⟩
 skip
 rcases cD (kind==6) with aX | aX
 ·skip
  have gF:=Qv xs x (by omega);have E6:=Rj xs x (by omega);rw[show cT kind xs x=((jG xs x),!(nq xs x)) from by grind[cT,ix,jG]];exact anU ⟨h1,ax,aX,gF,E6,aa⟩
 skip
 have lk:=te xs (by omega);rw[show cT kind xs x=(xs,true) from by grind[cT,ix,jG]];exact anV ⟨h1,ax,aX,lk,aa⟩
def hL(x:Node)(s:gd)(key val:Int):List aB:=x.outs.map fun k=>⟨k,s,key,val⟩
def cellOf(r:aB):Cell:=⟨r.op,r.bp.bc,r.key,r.val⟩
def dB(g:bR)(cs:List Cell)(r:aB)(x:Node):List Cell×List aB×Bool:=
 if dY g&&eR r then
  if !(cK x r.key r.val).2.2&&x.kind != 8 then (cs,[],true)
  else if !(cT x.kind cs ⟨r.op,r.bp.bc,r.key,r.val⟩).2 then ((cT x.kind cs ⟨r.op,r.bp.bc,r.key,r.val⟩).1,[],true)
  else if x.kind=7 then
   ((cT x.kind cs ⟨r.op,r.bp.bc,r.key,r.val⟩).1,(bif (eI r.bp).2 then hL x (eI r.bp).1 (cK x r.key r.val).1 (cK x r.key r.val).2.1 else []),true)
  else ((cT x.kind cs ⟨r.op,r.bp.bc,r.key,r.val⟩).1,hL x r.bp (cK x r.key r.val).1 (cK x r.key r.val).2.1,true)
 else (cs,[],false)
theorem xb(x:Node)(s:gd)(key val:Int){i:Nat}{k:Int}(h:x.outs[i]?=some k):(((x.outs.take (i+1)).map fun k=>(⟨k,s,key,val⟩:aB)).map aB.e)=(((x.outs.take i).map fun k=>(⟨k,s,key,val⟩:aB)).map aB.e)++[(⟨k,s,key,val⟩:aB).e]:=by
 simp[vA,h]
theorem RU(x:Node)(ak:x.outs.length<=8388608)(s:gd)(key val:Int)(h2:List (List D)):cW prog (ao f176 0) (uV x.kind x.a x.b (x.outs.map a6) key val h2 s.bc s.dT 0 []) (.exit 0) (sN h2 ((hL x s key val).map aB.e)):=by
 have l:=eN (P:=prog) (c:=(ao f176 0)) (cH 0) x.outs.length (fun i:Nat=>uV x.kind x.a x.b (x.outs.map a6) key val h2 s.bc s.dT i (((x.outs.take i).map fun k=>(⟨k,s,key,val⟩:aB)).map aB.e)) (fun i hi=>by
  obtain⟨k,hk⟩:=cS hi;rw[xb x s key val hk];exact ab2 ⟨b6 hi,bw,bE hi,bA a6 hk,by simp;omega,by simp;omega,fV (aB.flat ⟨k,s,key,val⟩),dc hi ak,aa⟩) (ab3 ⟨dz,aa⟩)
 rw[la]at l;exact l
theorem RV(x:Node)(ak:x.outs.length<=8388608)(s:gd)(key val:Int)(h2:List (List D)):cW prog (ao f176 0) (uW s.bc s.dT x.kind x.a x.b (x.outs.map a6) key val h2 0 []) (.exit 0) (sN h2 ((hL x s key val).map aB.e)):=by
 have l:=eN (P:=prog) (c:=(ao f176 0)) (cH 0) x.outs.length (fun i:Nat=>uW s.bc s.dT x.kind x.a x.b (x.outs.map a6) key val h2 i (((x.outs.take i).map fun k=>(⟨k,s,key,val⟩:aB)).map aB.e)) (fun i hi=>by
  obtain⟨k,hk⟩:=cS hi;rw[xb x s key val hk];exact ab5 ⟨b6 hi,bw,bE hi,bA a6 hk,by simp;omega,by simp;omega,fV (aB.flat ⟨k,s,key,val⟩),dc hi ak,aa⟩) (ab6 ⟨dz,aa⟩)
 rw[la]at l;exact l
theorem RW(x:Node)(ak:x.outs.length<=8388608)(s:gd)(key val:Int)(h2:List (List D)):cW prog (ao f176 0) (uX h2 x.kind x.a x.b (x.outs.map a6) key val s.bc s.dT 0 []) (.exit 0) (sO h2 ((hL x s key val).map aB.e)):=by
 have l:=eN (P:=prog) (c:=(ao f176 0)) (cH 0) x.outs.length (fun i:Nat=>uX h2 x.kind x.a x.b (x.outs.map a6) key val s.bc s.dT i (((x.outs.take i).map fun k=>(⟨k,s,key,val⟩:aB)).map aB.e)) (fun i hi=>by
  obtain⟨k,hk⟩:=cS hi;rw[xb x s key val hk];exact ab9 ⟨b6 hi,bw,bE hi,bA a6 hk,by simp;omega,by simp;omega,fV (aB.flat ⟨k,s,key,val⟩),dc hi ak,aa⟩) (aca ⟨dz,aa⟩)
 rw[la]at l;exact l
theorem RX(x:Node)(ak:x.outs.length<=8388608)(s:gd)(key val:Int)(h2:List (List D)):cW prog (ao f176 0) (uY h2 s.bc s.dT x.kind x.a x.b (x.outs.map a6) key val 0 []) (.exit 0) (sO h2 ((hL x s key val).map aB.e)):=by
 have l:=eN (P:=prog) (c:=(ao f176 0)) (cH 0) x.outs.length (fun i:Nat=>uY h2 s.bc s.dT x.kind x.a x.b (x.outs.map a6) key val i (((x.outs.take i).map fun k=>(⟨k,s,key,val⟩:aB)).map aB.e)) (fun i hi=>by
  obtain⟨k,hk⟩:=cS hi;rw[xb x s key val hk];exact acd ⟨b6 hi,bw,bE hi,bA a6 hk,by simp;omega,by simp;omega,fV (aB.flat ⟨k,s,key,val⟩),dc hi ak,aa⟩) (ace ⟨dz,aa⟩)
 rw[la]at l;exact l
theorem RY(x:Node)(ak:x.outs.length<=8388608)(s:gd)(key val:Int)(h2:List (List D)):cW prog (ao f232 0) (uZ s.bc s.dT (x.outs.map a6) key val h2 0 []) (.exit 0) (sP h2 ((hL x s key val).map aB.e)):=by
 have l:=eN (P:=prog) (c:=(ao f232 0)) (cH 0) x.outs.length (fun i:Nat=>uZ s.bc s.dT (x.outs.map a6) key val h2 i (((x.outs.take i).map fun k=>(⟨k,s,key,val⟩:aB)).map aB.e)) (fun i hi=>by
  obtain⟨k,hk⟩:=cS hi;rw[xb x s key val hk];exact abC ⟨b6 hi,bw,bE hi,bA a6 hk,rfl,by simp;omega,by simp;omega,fV (aB.flat ⟨k,s,key,val⟩),dc hi ak,aa⟩) (abD ⟨dz,aa⟩)
 rw[la]at l;exact l
theorem RZ(x:Node)(ak:x.outs.length<=8388608)(b:Bool)(s:gd)(key val:Int)(h2:List (List D)):cW prog (ao f232 0) (qo (x.outs.map a6) key val h2 s.bc s.dT b 0 []) (.exit 0) (sP h2 ((bif b then hL x s key val else []).map aB.e)):=by
 cases b with
 | true=>
  have l:=eN (P:=prog) (c:=(ao f232 0)) (cH 0) x.outs.length (fun i:Nat=>qo (x.outs.map a6) key val h2 s.bc s.dT true i (((x.outs.take i).map fun k=>(⟨k,s,key,val⟩:aB)).map aB.e)) (fun i hi=>by
   obtain⟨k,hk⟩:=cS hi;rw[xb x s key val hk];exact abz ⟨b6 hi,bw,bE hi,bA a6 hk,rfl,by simp;omega,by simp;omega,fV (aB.flat ⟨k,s,key,val⟩),dc hi ak,aa⟩) (Qp ⟨dz,aa⟩)
  rw[la]at l;exact l
 | false=>
  exact eN (P:=prog) (c:=(ao f232 0)) (cH 0) x.outs.length (fun i:Nat=>qo (x.outs.map a6) key val h2 s.bc s.dT false i []) (fun i hi=>by
   obtain⟨k,hk⟩:=cS hi;exact abA ⟨b6 hi,bw,bE hi,bA a6 hk,rfl,dc hi ak,aa⟩) (Qp ⟨dz,aa⟩)
theorem abS(g:bR)(cs:List Cell)(r:aB)(x:Node)(av:g.sz<=8388608)(ap:cs.length<=8388608)(a8:fF g r.op=some x):ar 176 [.agg g.e,.one (.J 4 (cs.map Cell.e)),.agg r.e] [.one (.J 4 ((dB g cs r x).1.map Cell.e)),.one (.J 5 ((dB g cs r x).2.1.map aB.e)),.one (B (dB g cs r x).2.2)]:=by
 have ak:=bR.yU av (J4 a8);obtain⟨l3,rf,_,_⟩:=CZ a8;have dd:g.nodes[r.op.toNat]?=some x:=by simp_all[fF,bM]
 have c1:=C1 g r.op (x,true) (by grind[tf]) av;have c2:=w8 g av;rcases cD (dY g) with ax | ax
 ·skip
  have dU:=rT r;rcases cD (eR r) with aX | aX
  ·skip
   have gF:=YX x r.key r.val ak;rcases cD ((cK x r.key r.val).2.2) with bN | bN
   ·skip
    have lk:=Qq x.kind;rcases cD (fC x.kind) with dQ | dQ
    ·skip
     have vH:=Qs x.kind cs (⟨r.op,r.bp.bc,r.key,r.val⟩:Cell) (by omega);rcases cD ((cT x.kind cs (⟨r.op,r.bp.bc,r.key,r.val⟩:Cell)).2) with hn | hn
     ·skip
      rcases cD (x.kind==7) with hB | hB
      ·skip
       have lQ:=w7 r.bp;rcases cD ((eI r.bp).2) with kl | kl
       ·skip
        
        rw[show dB g cs r x=(((cT x.kind cs (⟨r.op,r.bp.bc,r.key,r.val⟩:Cell)).1),(hL x ((eI r.bp).1) ((cK x r.key r.val).1) ((cK x r.key r.val).2.1)),true) from by grind[dB,fC,cT]];exact aci ⟨(by grind),(by grind),(by grind[cf,dR,dA,Cell.flat,aJ]),c1,rfl,c2,(by rw[ax];rfl),dU,(by rw[aX];rfl),gF,(by rw[bN];rfl),lk,dQ,vH,(by rw[hn];rfl),hB,lQ,(by rw[kl];rfl),(RU x ak ((eI r.bp).1) ((cK x r.key r.val).1) ((cK x r.key r.val).2.1) _),aa⟩
       skip
       rw[show dB g cs r x=(((cT x.kind cs (⟨r.op,r.bp.bc,r.key,r.val⟩:Cell)).1),([]:List aB),true) from by grind[dB,fC,cT]];exact ach ⟨(by grind),(by grind),(by grind[cf,dR,dA,Cell.flat,aJ]),c1,rfl,c2,(by rw[ax];rfl),dU,(by rw[aX];rfl),gF,(by rw[bN];rfl),lk,dQ,vH,(by rw[hn];rfl),hB,lQ,(by rw[kl];rfl),aa⟩
      skip
      
      rw[show dB g cs r x=(((cT x.kind cs (⟨r.op,r.bp.bc,r.key,r.val⟩:Cell)).1),(hL x r.bp ((cK x r.key r.val).1) ((cK x r.key r.val).2.1)),true) from by grind[dB,fC,cT]];exact acj ⟨(by grind),(by grind),(by grind[cf,dR,dA,Cell.flat,aJ]),c1,rfl,c2,(by rw[ax];rfl),dU,(by rw[aX];rfl),gF,(by rw[bN];rfl),lk,dQ,vH,(by rw[hn];rfl),hB,(RV x ak r.bp ((cK x r.key r.val).1) ((cK x r.key r.val).2.1) _),aa⟩
     skip
     rw[show dB g cs r x=(((cT x.kind cs (⟨r.op,r.bp.bc,r.key,r.val⟩:Cell)).1),([]:List aB),true) from by grind[dB,fC,cT]];exact acg ⟨(by grind),(by grind),(by grind[cf,dR,dA,Cell.flat,aJ]),c1,rfl,c2,(by rw[ax];rfl),dU,(by rw[aX];rfl),gF,(by rw[bN];rfl),lk,dQ,vH,(by rw[hn];rfl),aa⟩
    skip
    rcases cD (x.kind==7) with iJ | iJ
    ·skip
     have Bk:=w7 r.bp;rcases cD ((eI r.bp).2) with pY | pY
     ·skip
      
      rw[show dB g cs r x=(cs,(hL x ((eI r.bp).1) ((cK x r.key r.val).1) ((cK x r.key r.val).2.1)),true) from by grind[dB,fC,cT]];exact abu ⟨(by grind),(by grind),(by grind[cf,dR,dA,Cell.flat,aJ]),c1,rfl,c2,(by rw[ax];rfl),dU,(by rw[aX];rfl),gF,(by rw[bN];rfl),lk,dQ,iJ,Bk,(by rw[pY];rfl),(RW x ak ((eI r.bp).1) ((cK x r.key r.val).1) ((cK x r.key r.val).2.1) _),aa⟩
     skip
     rw[show dB g cs r x=(cs,([]:List aB),true) from by grind[dB,fC,cT]];exact ack ⟨(by grind),(by grind),(by grind[cf,dR,dA,Cell.flat,aJ]),c1,rfl,c2,(by rw[ax];rfl),dU,(by rw[aX];rfl),gF,(by rw[bN];rfl),lk,dQ,iJ,Bk,(by rw[pY];rfl),aa⟩
    skip
    
    rw[show dB g cs r x=(cs,(hL x r.bp ((cK x r.key r.val).1) ((cK x r.key r.val).2.1)),true) from by grind[dB,fC,cT]];exact abv ⟨(by grind),(by grind),(by grind[cf,dR,dA,Cell.flat,aJ]),c1,rfl,c2,(by rw[ax];rfl),dU,(by rw[aX];rfl),gF,(by rw[bN];rfl),lk,dQ,iJ,(RX x ak r.bp ((cK x r.key r.val).1) ((cK x r.key r.val).2.1) _),aa⟩
   skip
   rcases cD (x.kind != 8) with gq | gq
   ·skip
    rw[show dB g cs r x=(cs,([]:List aB),true) from by grind[dB,fC,cT]];exact abZ ⟨(by grind),(by grind),(by grind[cf,dR,dA,Cell.flat,aJ]),c1,rfl,c2,(by rw[ax];rfl),dU,(by rw[aX];rfl),gF,(by rw[bN];rfl),gq,aa⟩
   skip
   have ia:=Qq x.kind;rcases cD (fC x.kind) with eM | eM
   ·skip
    have lR:=Qs x.kind cs (⟨r.op,r.bp.bc,r.key,r.val⟩:Cell) (by omega);rcases cD ((cT x.kind cs (⟨r.op,r.bp.bc,r.key,r.val⟩:Cell)).2) with km | km
    ·skip
     rcases cD (x.kind==7) with jd | jd
     ·skip
      have Ms:=w7 r.bp;rcases cD ((eI r.bp).2) with oL | oL
      ·skip
       
       rw[show dB g cs r x=(((cT x.kind cs (⟨r.op,r.bp.bc,r.key,r.val⟩:Cell)).1),(hL x ((eI r.bp).1) ((cK x r.key r.val).1) ((cK x r.key r.val).2.1)),true) from by grind[dB,fC,cT]];exact ab4 ⟨(by first | omega | (simp only[cf,dR];omega) | exact dA _ Cell.flat _ | grind[aJ]),(by first | omega | (simp only[cf,dR];omega) | exact dA _ Cell.flat _ | grind[aJ]),(by first | omega | (simp only[cf,dR];omega) | exact dA _ Cell.flat _ | grind[aJ]),c1,rfl,c2,(by rw[ax];rfl),dU,(by rw[aX];rfl),gF,(by rw[bN];rfl),gq,ia,eM,lR,(by rw[km];rfl),jd,Ms,(by rw[oL];rfl),(RU x ak ((eI r.bp).1) ((cK x r.key r.val).1) ((cK x r.key r.val).2.1) _),aa⟩
      skip
      rw[show dB g cs r x=(((cT x.kind cs (⟨r.op,r.bp.bc,r.key,r.val⟩:Cell)).1),([]:List aB),true) from by grind[dB,fC,cT]];exact ab1 ⟨(by first | omega | (simp only[cf,dR];omega) | exact dA _ Cell.flat _ | grind[aJ]),(by first | omega | (simp only[cf,dR];omega) | exact dA _ Cell.flat _ | grind[aJ]),(by first | omega | (simp only[cf,dR];omega) | exact dA _ Cell.flat _ | grind[aJ]),c1,rfl,c2,(by rw[ax];rfl),dU,(by rw[aX];rfl),gF,(by rw[bN];rfl),gq,ia,eM,lR,(by rw[km];rfl),jd,Ms,(by rw[oL];rfl),aa⟩
     skip
     
     rw[show dB g cs r x=(((cT x.kind cs (⟨r.op,r.bp.bc,r.key,r.val⟩:Cell)).1),(hL x r.bp ((cK x r.key r.val).1) ((cK x r.key r.val).2.1)),true) from by grind[dB,fC,cT]];exact ab7 ⟨(by grind),(by grind),(by grind[cf,dR,dA,Cell.flat,aJ]),c1,rfl,c2,(by rw[ax];rfl),dU,(by rw[aX];rfl),gF,(by rw[bN];rfl),gq,ia,eM,lR,(by rw[km];rfl),jd,(RV x ak r.bp ((cK x r.key r.val).1) ((cK x r.key r.val).2.1) _),aa⟩
    skip
    rw[show dB g cs r x=(((cT x.kind cs (⟨r.op,r.bp.bc,r.key,r.val⟩:Cell)).1),([]:List aB),true) from by grind[dB,fC,cT]];exact ab0 ⟨(by grind),(by grind),(by grind[cf,dR,dA,Cell.flat,aJ]),c1,rfl,c2,(by rw[ax];rfl),dU,(by rw[aX];rfl),gF,(by rw[bN];rfl),gq,ia,eM,lR,(by rw[km];rfl),aa⟩
   skip
   rcases cD (x.kind==7) with oM | oM
   ·skip
    have Mt:=w7 r.bp;rcases cD ((eI r.bp).2) with mH | mH
    ·skip
     
     rw[show dB g cs r x=(cs,(hL x ((eI r.bp).1) ((cK x r.key r.val).1) ((cK x r.key r.val).2.1)),true) from by grind[dB,fC,cT]];exact acb ⟨(by first | omega | (simp only[cf,dR];omega) | exact dA _ Cell.flat _ | grind[aJ]),(by first | omega | (simp only[cf,dR];omega) | exact dA _ Cell.flat _ | grind[aJ]),(by first | omega | (simp only[cf,dR];omega) | exact dA _ Cell.flat _ | grind[aJ]),c1,rfl,c2,(by rw[ax];rfl),dU,(by rw[aX];rfl),gF,(by rw[bN];rfl),gq,ia,eM,oM,Mt,(by rw[mH];rfl),(RW x ak ((eI r.bp).1) ((cK x r.key r.val).1) ((cK x r.key r.val).2.1) _),aa⟩
    skip
    rw[show dB g cs r x=(cs,([]:List aB),true) from by grind[dB,fC,cT]];exact ab8 ⟨(by first | omega | (simp only[cf,dR];omega) | exact dA _ Cell.flat _ | grind[aJ]),(by first | omega | (simp only[cf,dR];omega) | exact dA _ Cell.flat _ | grind[aJ]),(by first | omega | (simp only[cf,dR];omega) | exact dA _ Cell.flat _ | grind[aJ]),c1,rfl,c2,(by rw[ax];rfl),dU,(by rw[aX];rfl),gF,(by rw[bN];rfl),gq,ia,eM,oM,Mt,(by rw[mH];rfl),aa⟩
   skip
   
   rw[show dB g cs r x=(cs,(hL x r.bp ((cK x r.key r.val).1) ((cK x r.key r.val).2.1)),true) from by grind[dB,fC,cT]];exact acf ⟨(by grind),(by grind),(by grind[cf,dR,dA,Cell.flat,aJ]),c1,rfl,c2,(by rw[ax];rfl),dU,(by rw[aX];rfl),gF,(by rw[bN];rfl),gq,ia,eM,oM,(RX x ak r.bp ((cK x r.key r.val).1) ((cK x r.key r.val).2.1) _),aa⟩
  skip
  rw[show dB g cs r x=(cs,([]:List aB),false) from by grind[dB,fC,cT]];exact abY ⟨(by grind),(by grind),(by grind[cf,dR,dA,Cell.flat,aJ]),c1,rfl,c2,(by rw[ax];rfl),dU,(by rw[aX];rfl),aa⟩
 skip
 rw[show dB g cs r x=(cs,([]:List aB),false) from by grind[dB,fC,cT]];exact abX ⟨(by grind),(by grind),(by grind[cf,dR,dA,Cell.flat,aJ]),c1,rfl,c2,(by rw[ax];rfl),aa⟩
theorem abT(g:bR)(cs:List Cell)(r:aB)(x:Node)(av:g.sz<=8388608)(ap:cs.length<=8388608)(a8:fF g r.op=some x):ar 232 [.agg g.e,.one (.J 4 (cs.map Cell.e)),.agg r.e] [.one (.J 4 ((dB g cs r x).1.map Cell.e)),.one (.J 5 ((dB g cs r x).2.1.map aB.e)),.one (B (dB g cs r x).2.2)]:=by
 have ak:=bR.yU av (J4 a8);obtain⟨l3,rf,_,_⟩:=CZ a8;have dd:g.nodes[r.op.toNat]?=some x:=by simp_all[fF,bM]
 have c1:=w9 g av;rcases cD (dY g) with U | U
 ·skip
  have cu:=uP r;rcases cD (eR r) with aI | aI
  ·skip
   have fJ:=w6 g r.op true (by rw[a8];rfl) av;have gF:=YY x r.key r.val ak;rcases cD ((cK x r.key r.val).2.2) with bN | bN
   ·skip
    have lk:=Qt x.kind cs (⟨r.op,r.bp.bc,r.key,r.val⟩:Cell) (by omega);rcases cD ((cT x.kind cs (⟨r.op,r.bp.bc,r.key,r.val⟩:Cell)).2) with dQ | dQ
    ·skip
     rcases cD (x.kind==7) with dy | dy
     ·skip
      have oG:=Ka r.bp
      
      rw[show dB g cs r x=(((cT x.kind cs (⟨r.op,r.bp.bc,r.key,r.val⟩:Cell)).1),(bif (eI r.bp).2 then hL x ((eI r.bp).1) ((cK x r.key r.val).1) ((cK x r.key r.val).2.1) else []),true) from by grind[dB,fC,cT]];exact abG ⟨c1,(by rw[U];rfl),cu,(by rw[aI];rfl),fJ,rfl,(by grind),(by grind),(bC Node.e dd),gF,(by rw[bN];rfl),lk,(by rw[dQ];rfl),dy,oG,(RZ x ak ((eI r.bp).2) ((eI r.bp).1) ((cK x r.key r.val).1) ((cK x r.key r.val).2.1) _),aa⟩
     skip
     
     rw[show dB g cs r x=(((cT x.kind cs (⟨r.op,r.bp.bc,r.key,r.val⟩:Cell)).1),(hL x r.bp ((cK x r.key r.val).1) ((cK x r.key r.val).2.1)),true) from by grind[dB,fC,cT]];exact abH ⟨c1,(by rw[U];rfl),cu,(by rw[aI];rfl),fJ,rfl,(by grind),(by grind),(bC Node.e dd),gF,(by rw[bN];rfl),lk,(by rw[dQ];rfl),dy,(RY x ak r.bp ((cK x r.key r.val).1) ((cK x r.key r.val).2.1) _),aa⟩
    skip
    rw[show dB g cs r x=(((cT x.kind cs (⟨r.op,r.bp.bc,r.key,r.val⟩:Cell)).1),([]:List aB),true) from by grind[dB,fC,cT]];exact abF ⟨c1,(by rw[U];rfl),cu,(by rw[aI];rfl),fJ,rfl,(by grind),(by grind),(bC Node.e dd),gF,(by rw[bN];rfl),lk,(by rw[dQ];rfl),aa⟩
   skip
   rcases cD (x.kind != 8) with hB | hB
   ·skip
    have lQ:=te cs (by omega);rw[show dB g cs r x=(cs,([]:List aB),true) from by grind[dB,fC,cT]];exact abx ⟨c1,(by rw[U];rfl),cu,(by rw[aI];rfl),fJ,rfl,(by grind),(by grind),(bC Node.e dd),gF,(by rw[bN];rfl),hB,lQ,aa⟩
   skip
   have E5:=Qt x.kind cs (⟨r.op,r.bp.bc,r.key,r.val⟩:Cell) (by omega);rcases cD ((cT x.kind cs (⟨r.op,r.bp.bc,r.key,r.val⟩:Cell)).2) with iJ | iJ
   ·skip
    rcases cD (x.kind==7) with cp | cp
    ·skip
     have kP:=Ka r.bp
     
     rw[show dB g cs r x=(((cT x.kind cs (⟨r.op,r.bp.bc,r.key,r.val⟩:Cell)).1),(bif (eI r.bp).2 then hL x ((eI r.bp).1) ((cK x r.key r.val).1) ((cK x r.key r.val).2.1) else []),true) from by grind[dB,fC,cT]];exact abB ⟨c1,(by rw[U];rfl),cu,(by rw[aI];rfl),fJ,rfl,(by first | omega | (simp only[cf,dR];omega) | exact dA _ Cell.flat _ | grind[aJ]),(by first | omega | (simp only[cf,dR];omega) | exact dA _ Cell.flat _ | grind[aJ]),(bC Node.e dd),gF,(by rw[bN];rfl),hB,E5,(by rw[iJ];rfl),cp,kP,(RZ x ak ((eI r.bp).2) ((eI r.bp).1) ((cK x r.key r.val).1) ((cK x r.key r.val).2.1) _),aa⟩
    skip
    
    rw[show dB g cs r x=(((cT x.kind cs (⟨r.op,r.bp.bc,r.key,r.val⟩:Cell)).1),(hL x r.bp ((cK x r.key r.val).1) ((cK x r.key r.val).2.1)),true) from by grind[dB,fC,cT]];exact abE ⟨c1,(by rw[U];rfl),cu,(by rw[aI];rfl),fJ,rfl,(by grind),(by grind),(bC Node.e dd),gF,(by rw[bN];rfl),hB,E5,(by rw[iJ];rfl),cp,(RY x ak r.bp ((cK x r.key r.val).1) ((cK x r.key r.val).2.1) _),aa⟩
   skip
   rw[show dB g cs r x=(((cT x.kind cs (⟨r.op,r.bp.bc,r.key,r.val⟩:Cell)).1),([]:List aB),true) from by grind[dB,fC,cT]];exact aby ⟨c1,(by rw[U];rfl),cu,(by rw[aI];rfl),fJ,rfl,(by grind),(by grind),(bC Node.e dd),gF,(by rw[bN];rfl),hB,E5,(by rw[iJ];rfl),aa⟩
  skip
  have VG:=te cs (by omega);rw[show dB g cs r x=(cs,([]:List aB),false) from by grind[dB,fC,cT]];exact Qo ⟨c1,(by rw[U];rfl),cu,(by rw[aI];rfl),VG,aa⟩
 skip
 have ia:=te cs (by omega);rw[show dB g cs r x=(cs,([]:List aB),false) from by grind[dB,fC,cT]];exact Qn ⟨c1,(by rw[U];rfl),ia,aa⟩
end Go.Proofs.YtdchjefneblpgaaGreat
namespace Go.Proofs.YtdchjefneblpgaaGreat
open Go.Sx Go.RowKit Go.Proofs.Tryz
def dv(g:bR)(cs:List Cell)(r:aB):List Cell×List aB×Bool:=match fF g r.op with | some x=>dB g cs r x | none=>(cs,[],false)
theorem R0(g:bR)(cs:List Cell)(r:aB)(av:g.sz<=8388608)(ap:cs.length<=8388608):ar 176 [.agg g.e,.one (.J 4 (cs.map Cell.e)),.agg r.e] [.one (.J 4 ((dv g cs r).1.map Cell.e)),.one (.J 5 ((dv g cs r).2.1.map aB.e)),.one (B (dv g cs r).2.2)]:=by
 unfold dv;cases h:fF g r.op with
 | some x=>exact abS g cs r x av ap h
 | none=>exact abW ⟨by simp<;>omega,by simp<;>omega,dA _ Cell.flat _,C1 g r.op (⟨0,0,0,[]⟩,false) (by unfold tf;rw[h]) av,rfl,aa⟩
theorem abj(g:bR)(cs:List Cell)(r:aB)(av:g.sz<=8388608)(ap:cs.length<=8388608):ar 232 [.agg g.e,.one (.J 4 (cs.map Cell.e)),.agg r.e] [.one (.J 4 ((dv g cs r).1.map Cell.e)),.one (.J 5 ((dv g cs r).2.1.map aB.e)),.one (B (dv g cs r).2.2)]:=by
 unfold dv;cases h:fF g r.op with
 | some x=>exact abT g cs r x av ap h
 | none=>
  have c1:=w9 g av;have c2:=uP r;have cu:=w6 g r.op false (by rw[h];rfl) av;have dL:=te cs ap;generalize dY g=gD at*;generalize eR r=fQ at*;cases gD with
  | false=>exact Qn ⟨c1,rfl,dL,aa⟩
  | true=>
   cases fQ with
   | false=>exact Qo ⟨c1,rfl,c2,rfl,dL,aa⟩
   | true=>exact abw ⟨c1,rfl,c2,rfl,cu,rfl,dL,aa⟩
def jn(g:bR)(r:aB)(x:Node):Bool:=dY g&&eR r&&x.kind==7&&decide (0<x.outs.length)&&!(eI r.bp).2
def dm(g:bR)(r:aB):Bool:=match fF g r.op with | some x=>jn g r x | none=>false
theorem abk(g:bR)(r:aB)(x:Node)(av:g.sz<=8388608)(a8:fF g r.op=some x):ar 177 [.agg g.e,.agg r.e] [.one (B (jn g r x))]:=by
 have c1:=C1 g r.op (x,true) (by unfold tf;rw[a8]) av;have c2:=w7 r.bp;have cu:=w8 g av;rcases cD (dY g) with aI | aI
 ·skip
  have fJ:=rT r;rcases cD (eR r) with bx | bx
  ·skip
   rcases cD (x.kind==7) with bN | bN
   ·skip
    rcases cD (decide ((↑(x.outs.map a6).length:Int)>0)) with db | db
    ·skip
     rw[show jn g r x=(!((eI r.bp).2)) from by grind[jn]];exact aao ⟨c1,c2,rfl,cu,aI,fJ,bx,bN,db,aa⟩
    skip
    rw[show jn g r x=false from by grind[jn]];exact aap ⟨c1,c2,rfl,cu,aI,fJ,bx,bN,db,aa⟩
   skip
   rw[show jn g r x=false from by grind[jn]];exact aaq ⟨c1,c2,rfl,cu,aI,fJ,bx,bN,aa⟩
  skip
  rw[show jn g r x=false from by grind[jn]];exact aar ⟨c1,c2,rfl,cu,aI,fJ,bx,aa⟩
 skip
 rw[show jn g r x=false from by grind[jn]];exact abU ⟨c1,c2,rfl,cu,aI,aa⟩
theorem R1(g:bR)(r:aB)(av:g.sz<=8388608):ar 177 [.agg g.e,.agg r.e] [.one (B (dm g r))]:=by
 unfold dm;cases h:fF g r.op with
 | some x=>exact abk g r x av h
 | none=>exact abV ⟨C1 g r.op (⟨0,0,0,[]⟩,false) (by unfold tf;rw[h]) av,w7 r.bp,rfl,aa⟩
theorem JC{g:bR}(h:dY g=true){op:Int}{x:Node}(a8:fF g op=some x):aN x=true:=by
 simp only[dY,cF,h8]at h;unfold fF at a8;split at a8
 ·have:=CI h.2 op.toNat x a8;simp only[iw,gn,kg]at this;exact this.1.1
 cases a8
theorem abl{x:Node}(h:aN x=true):x.outs.length<=2:=by
 simp only[aN,cF,cU]at h;exact h.1.1.1.2
theorem abm(kind:Int)(cs:List Cell)(x:Cell):(cT kind cs x).1.length<=cs.length+1:=by
 have h1:=Rg cs x;have U:=Rg (cs.filter fun a=>!eJ x a) x;have ax:=qK (fun a=>!eJ x a) cs;unfold cT;split
 ·split<;>simp<;>omega
 split
 ·unfold ix;split<;>simp<;>omega
 simp
theorem abn{g:bR}(av:dY g=true)(cs:List Cell)(r:aB):(dv g cs r).1.length<=cs.length+1/\(dv g cs r).2.1.length<=2:=by
 unfold dv;cases h:fF g r.op with
 | none=>exact⟨by simp,by simp⟩
 | some x=>
  have ak:=abl (JC av h);have aH:=abm x.kind cs ⟨r.op,r.bp.bc,r.key,r.val⟩;have ai:∀s k v,(hL x s k v).length<=2:=fun s k v=>by simpa[hL]using ak
  simp only[dB];split
  ·split
   ·exact⟨by simp,by simp⟩
   split
   ·exact⟨aH,by simp⟩
   split
   ·refine⟨aH,?_⟩;cases (eI r.bp).2 with
    | true=>exact ai _ _ _
    | false=>simp
   exact⟨aH,ai _ _ _⟩
  exact⟨by simp,by simp⟩
