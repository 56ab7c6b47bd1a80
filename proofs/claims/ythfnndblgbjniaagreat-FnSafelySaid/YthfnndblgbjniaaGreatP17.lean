import Derived.Test.YthfnndblgbjniaaGreatP16
import Derived.Test.YthfnndblgbjniaaGreatGS
set_option linter.unusedVariables false
set_option linter.unusedSimpArgs false
namespace Go.Proofs.YthfnndblgbjniaaGreat
open Go.Sx Go.RowKit Go.Proofs.Tryz
theorem aq2{P:Program}{f:Nat}{args:List GA}{k:Nat}{l hf:List (List D)}(h:ks P f args [.one (.J k l)])(al:l=hf):ks P f args [.one (.J k hf)]:=al▸h
theorem Pl(xs:List Cell)(p:Cell->Bool)(g:Nat)(bk:List D)(al:xs.length<=8388608)(ai:fX prog g=true)(hp:∀x∈xs,∀r,p x=r->ar g ([.agg x.e]++bk.map .one) [.one (B r)]):
  ∀(n i:Nat) (ys:List Cell),n+i=xs.length->ys.length=xs.length->ys.drop i=xs.drop i->ys.take ((xs.take i).filter fun a=>!p a).length=(xs.take i).filter (fun a=>!p a)->
  ∃zs:List Cell,c8 prog (ap f228 0) (wD g bk i ((xs.take i).filter fun a=>!p a).length (ys.map Cell.e)) (.exit 0) (NE (zs.map Cell.e) (xs.filter fun a=>!p a).length)/\zs.length=xs.length/\zs.take (xs.filter fun a=>!p a).length=xs.filter (fun a=>!p a)
 | 0,i,ys,hi,bu,_,bK=>by
  have e:xs.take i=xs:=yS (by omega);rw[e]at bK ⊢;exact⟨ys,.last (cn 0) (agh ⟨ea (by simp;omega),aa⟩),bu,bK⟩
 | n+1,i,ys,hi,bu,aE,bK=>by
  obtain⟨a,ah⟩:=c5 (xs:=xs) (i:=i) (by omega);have Cl:ys[i]?=some a:=by
   have e1:ys[i]?=(ys.drop i)[0]?:=by simp
   grind
  have bI:=AN (fun a=>!p a) ah;have hle:=G0 (fun a=>!p a) xs i;have pu:ys.drop (i+1)=xs.drop (i+1):=by
   have:=congrArg (List.drop 1) aE;grind[List.drop_drop,Nat.add_comm]
  cases h:p a with
  | true=>
   rw[h]at bI;simp only[hy,oc,mh,iO]at bI;obtain⟨zs,h1,U,aA⟩:=Pl xs p g bk al ai hp n (i+1) ys (by omega) bu pu (by grind);rw[bI]at h1;exact⟨zs,.more (agf ⟨dh (by simp;omega),bx,by simp;omega,bA Cell.e Cl,ai,hp a (cD ah) true h,rfl,⟨by omega,by omega⟩,aa⟩) h1,U,aA⟩
  | false=>
   rw[h]at bI;simp only[o3,gy]at bI;generalize bf:((xs.take i).filter fun a=>!p a).length=j at*;obtain⟨b,aw⟩:=c5 (xs:=ys) (i:=j) (by omega);obtain⟨zs,h1,U,aA⟩:=Pl xs p g bk al ai hp n (i+1) (ys.set j a) (by omega) (by grind) (by grind[List.drop_set_of_lt]) (by
    rw[bI,f',bf,List.length_singleton,List.take_set,<-bK];have jG:j<ys.length:=by omega
    simp_all[List.take_succ_eq_append_getElem,List.set_append_right,nC,Nat.min_eq_left,Nat.le_of_lt])
   rw[bI,f',bf,List.length_singleton]at h1;refine⟨zs,.more (oX (fun l=>wD g bk ((i+1:Nat):Int) ((j+1:Nat):Int) l) (age ⟨dh (by simp;omega),bx,by simp;omega,bA Cell.e Cl,ai,hp a (cD ah) false h,rfl,bx,by simp;omega,bA Cell.e aw,⟨by omega,by omega⟩,⟨by omega,by omega⟩,aa⟩) ?_) h1,U,aA⟩;show List.set _ _ a.e=_;simp_all
theorem aq3(xs:List Cell)(p:Cell->Bool)(g:Nat)(bk:List D)(al:xs.length<=8388608)(ai:fX prog g=true)(hp:∀x∈xs,ar g ([.agg x.e]++bk.map .one) [.one (B (p x))]):
  ks prog 228 [.one (.e5 4 (xs.map Cell.e) none),.one (.ro (.cl g bk))] [.one (.J 4 ((xs.filter fun a=>!p a).map Cell.e))]:=by
 have kb:∀x∈xs,∀r,p x=r->ar g ([.agg x.e]++bk.map .one) [.one (B r)]:=fun x ag r h=>h▸hp x ag
 have lL:=agS xs p g bk al ai hp;unfold kA at lL;cases h:xs.findIdx? p with
 | none=>
  rw[h]at lL;rw[Jm]at h;have e:(xs.filter fun a=>!p a)=xs:=List.filter_eq_self.2 fun a ah=>by simp[h a ah]
  rw[e];exact agd ⟨lL,rfl,aa⟩
 | some i=>
  rw[h]at lL;change iF _ _ _ [.one (I (i:Int))]at lL;rw[u9]at h;obtain⟨hi,U,aA⟩:=h;have ag:xs[i]?=some xs[i]:=gU hi;have bE:(xs.take i).filter (fun a=>!p a)=xs.take i:=List.filter_eq_self.2 fun a ah=>by
   grind[List.getElem_of_mem]
  have e1:=AN (fun a=>!p a) ag;rw[U]at e1;simp only[hy,oc,mh,iO]at e1;rw[bE]at e1;have e2:(xs.take i).length=i:=by grind
  obtain⟨zs,l,bb,bK⟩:=Pl xs p g bk al ai kb (xs.length-(i+1)) (i+1) xs (by omega) rfl rfl (by rw[e1,e2]);rw[e1,e2]at l;have bR:(xs.filter fun a=>!p a).length<xs.length:=by
   grind[yX,f',o2,List.length_drop]
  generalize xs.filter (fun a=>!p a)=eV at*;refine aq2 (agi ⟨lL,yU.2 (by omega),⟨by omega,by omega⟩,l,by simp,by simp;omega,dt _ Cell.flat _,by simp,by simp,by simp;omega,aa⟩) ?_;simp only[lW,lz,Nat.sub_zero,yY,<-q3];grind
def gS(k:Int):Bool:=k==5||k==6||k==8
def ih(xs:List Cell)(x:Cell):List Cell×Bool:=
 if (pW xs x.op x.ba x.key).2&&decide ((pW xs x.op x.ba x.key).1<=x.val) then (xs,false) else (kE (xs.filter fun a=>!eY x a) x,true)
def cB(kind:Int)(xs:List Cell)(x:Cell):List Cell×Bool:=
 if kind=6 then (if n0 xs x then (xs,false) else (kE xs x,true))
 else if kind=5\/kind=8 then ih xs x
 else (xs,true)
theorem Xi(k:Int):ar 198 [.one (I k)] [.one (B (gS k))]:=by
 rcases cU (k==5) with h1 | h1
 ·skip
  rw[show gS k=true from by grind[gS]];exact agV ⟨h1,aa⟩
 skip
 rcases cU (k==6) with U | U
 ·skip
  rw[show gS k=true from by grind[gS]];exact agW ⟨h1,U,aa⟩
 skip
 rw[show gS k=(k==8) from by grind[gS]];exact agX ⟨h1,U,aa⟩
theorem Xj(xs:List Cell)(x:Cell)(al:xs.length<=8388608):ar 214 [.one (.J 4 (xs.map Cell.e)),.agg x.e] [.one (.J 4 ((ih xs x).1.map Cell.e)),.one (B (ih xs x).2)]:=by
 have c:=amr xs x.op x.ba x.key al;have cF:=wF xs al;have d:=aq3 xs (eY x) 229 [D.ptr x.e] al (by kernel_rfl) (fun y _=>agc ⟨VU x y,aa⟩);have To:=Wh (xs.filter fun a=>!eY x a) x (nD (o2 ..) al);unfold ih;generalize pW xs x.op x.ba x.key=m at*;obtain⟨v,f⟩:=m;cases f with
 | false=>exact afQ ⟨c,rfl,cF,d,To,aa⟩
 | true=>
  by_cases h:v<=x.val
  ·rw[dh h];exact afO ⟨c,rfl,dh h,cF,aa⟩
  rw[ea h];exact afP ⟨c,rfl,ea h,cF,d,To,aa⟩
theorem aq4(xs acc:List Cell)(x:Cell)(al:xs.length<=8388608)(i:Nat)(ai:acc.length<=i)(a:Cell)(ah:xs[i]?=some a):fS prog (ap f199 0) (mL (xs.map Cell.e) x.op x.ba x.key x.val i (acc.map Cell.e)) .normal (mL (xs.map Cell.e) x.op x.ba x.key x.val ((i+1:Nat):Int) ((acc++(bif eY x a then [] else [a])).map Cell.e)):=by
 have bf:=aY ah;have dG:xs[(i:Int).toNat]?=some a:=by grind
 have eJ:decide ((i:Int)<(↑(xs.map Cell.e).length:Int))=true:=bV bf;rcases cU (a.op != x.op) with h1 | h1
 ·skip
  have ao:eY x a=false:=by grind[eY]
  rw[ao];rw[show (acc++(bif false then [] else [a])).map Cell.e=acc.map Cell.e++[a.e] from by simp];exact ag1 ⟨eJ,(by grind),(by grind),(bS Cell.e dG),h1,(by grind),(by grind),(bS Cell.e dG),(by grind),(by grind),(by grind[b',gT,ew,gb]),(by first | omega | (simp only[b',gT,ew];omega) | exact gb a.flat | (exact⟨by omega,by omega⟩)),aa⟩
 skip
 rcases cU (a.ba != x.ba) with U | U
 ·skip
  have ao:eY x a=false:=by grind[eY]
  rw[ao];rw[show (acc++(bif false then [] else [a])).map Cell.e=acc.map Cell.e++[a.e] from by simp];exact ag2 ⟨eJ,(by grind),(by grind),(bS Cell.e dG),h1,(by grind),(by grind),(bS Cell.e dG),U,(by grind),(by grind),(bS Cell.e dG),(by grind),(by grind),(by grind[b',gT,ew,gb]),(by first | omega | (simp only[b',gT,ew];omega) | exact gb a.flat | (exact⟨by omega,by omega⟩)),aa⟩
 skip
 rcases cU (a.key != x.key) with aA | aA
 ·skip
  have ao:eY x a=false:=by grind[eY]
  rw[ao];rw[show (acc++(bif false then [] else [a])).map Cell.e=acc.map Cell.e++[a.e] from by simp];exact ag3 ⟨eJ,(by grind),(by grind),(bS Cell.e dG),h1,(by grind),(by grind),(bS Cell.e dG),U,(by grind),(by grind),(bS Cell.e dG),aA,(by grind),(by grind),(bS Cell.e dG),(by grind),(by grind),(by grind[b',gT,ew,gb]),(by first | omega | (simp only[b',gT,ew];omega) | exact gb a.flat | (exact⟨by omega,by omega⟩)),aa⟩
 skip
 have ao:eY x a=true:=by grind[eY]
 rw[ao];rw[show (acc++(bif true then [] else [a])).map Cell.e=acc.map Cell.e from by simp];exact ag4 ⟨eJ,(by grind),(by grind),(bS Cell.e dG),h1,(by grind),(by grind),(bS Cell.e dG),U,(by grind),(by grind),(bS Cell.e dG),aA,(by first | omega | (simp only[b',gT,ew];omega) | exact gb a.flat | (exact⟨by omega,by omega⟩)),aa⟩
theorem aq5(p:Cell->Bool){xs:List Cell}{i:Nat}{a:Cell}(h:xs[i]?=some a):(xs.take (i+1)).filter (fun b=>!p b)=(xs.take i).filter (fun b=>!p b)++(bif p a then [] else [a]):=by
 rw[AN _ h];grind
theorem H3(xs:List Cell)(x:Cell)(al:xs.length<=8388608):c8 prog (ap f199 0) (mL (xs.map Cell.e) x.op x.ba x.key x.val 0 []) (.exit 1) (z7 x.op x.ba x.key x.val ((xs.filter fun a=>!eY x a).map Cell.e)):=by
 have l:=er (P:=prog) (c:=(ap f199 0)) (cn 1) xs.length (fun i:Nat=>mL (xs.map Cell.e) x.op x.ba x.key x.val i (((xs.take i).filter fun a=>!eY x a).map Cell.e)) (fun i hi=>by
  obtain⟨a,ah⟩:=c5 hi;rw[aq5 (eY x) ah];grind[aq4,G0]) (ag5 ⟨dq,aa⟩)
 grind
theorem Xk(kind:Int)(xs:List Cell)(x:Cell)(al:xs.length<=8388608):ar 199 [.one (I kind),.one (.J 4 (xs.map Cell.e)),.agg x.e] [.one (.J 4 (((cB kind xs x).1).map Cell.e)),.one (B ((cB kind xs x).2))]:=by
 have bI:=o2 (fun a=>!eY x a) xs;rcases cU (kind==6) with h1 | h1
 ·skip
  have c2:=Wd xs x (by omega);rcases cU (n0 xs x) with aA | aA
  ·skip
   rw[show cB kind xs x=(xs,false) from by grind[cB,ih]];exact agY ⟨(by grind),(by grind),(by grind[b',ew,dt,Cell.flat,aL]),h1,c2,aA,aa⟩
  skip
  have eI:=C0 xs x (by omega);rw[show cB kind xs x=((kE xs x),true) from by grind[cB,ih]];exact agZ ⟨(by grind),(by grind),(by grind[b',ew,dt,Cell.flat,aL]),h1,c2,aA,eI,aa⟩
 skip
 rcases cU (kind==5) with a7 | a7
 ·skip
  have h5:=VV xs x.op x.ba x.key (by omega);rcases cU ((pW xs x.op x.ba x.key).2) with b1 | b1
  ·skip
   rcases cU (decide (((pW xs x.op x.ba x.key).1)<=x.val)) with dA | dA
   ·skip
    rw[show cB kind xs x=(xs,false) from by grind[cB,ih]];exact ag0 ⟨(by grind),(by grind),(by grind[b',ew,dt,Cell.flat,aL]),h1,a7,a7,h5,b1,dA,aa⟩
   skip
   
   have acT:=C0 (xs.filter fun a=>!eY x a) x (by omega);rw[show cB kind xs x=((kE (xs.filter fun a=>!eY x a) x),true) from by grind[cB,ih]];exact ag6 ⟨(by grind),(by grind),(by grind[b',ew,dt,Cell.flat,aL]),h1,a7,a7,h5,b1,dA,(H3 xs x al),acT,aa⟩
  skip
  
  have y8:=C0 (xs.filter fun a=>!eY x a) x (by omega);rw[show cB kind xs x=((kE (xs.filter fun a=>!eY x a) x),true) from by grind[cB,ih]];exact ag7 ⟨(by grind),(by grind),(by grind[b',ew,dt,Cell.flat,aL]),h1,a7,a7,h5,b1,(H3 xs x al),y8,aa⟩
 skip
 rcases cU (kind==8) with iS | iS
 ·skip
  have pg:=VV xs x.op x.ba x.key (by omega);rcases cU ((pW xs x.op x.ba x.key).2) with vq | vq
  ·skip
   rcases cU (decide (((pW xs x.op x.ba x.key).1)<=x.val)) with mm | mm
   ·skip
    rw[show cB kind xs x=(xs,false) from by grind[cB,ih]];exact ag8 ⟨(by grind),(by grind),(by grind[b',ew,dt,Cell.flat,aL]),h1,a7,iS,pg,vq,mm,aa⟩
   skip
   
   have acR:=C0 (xs.filter fun a=>!eY x a) x (by omega);rw[show cB kind xs x=((kE (xs.filter fun a=>!eY x a) x),true) from by grind[cB,ih]];exact ag9 ⟨(by grind),(by grind),(by grind[b',ew,dt,Cell.flat,aL]),h1,a7,iS,pg,vq,mm,(H3 xs x al),acR,aa⟩
  skip
  
  have Fa:=C0 (xs.filter fun a=>!eY x a) x (by omega);rw[show cB kind xs x=((kE (xs.filter fun a=>!eY x a) x),true) from by grind[cB,ih]];exact aha ⟨(by grind),(by grind),(by grind[b',ew,dt,Cell.flat,aL]),h1,a7,iS,pg,vq,(H3 xs x al),Fa,aa⟩
 skip
 rw[show cB kind xs x=(xs,true) from by grind[cB,ih]];exact ahb ⟨(by grind),(by grind),(by grind[b',ew,dt,Cell.flat,aL]),h1,a7,iS,aa⟩
theorem Xl(kind:Int)(xs:List Cell)(x:Cell)(al:xs.length<=8388608):ar 193 [.one (I kind),.one (.J 4 (xs.map Cell.e)),.agg x.e] [.one (.J 4 (((cB kind xs x).1).map Cell.e)),.one (B ((cB kind xs x).2))]:=by
 rcases cU (kind==5) with h1 | h1
 ·skip
  have c2:=Xj xs x (by omega);rw[show cB kind xs x=(((ih xs x).1),(ih xs x).2) from by grind[cB,ih,kE]];exact afR ⟨h1,h1,c2,aa⟩
 skip
 rcases cU (kind==8) with aA | aA
 ·skip
  have eI:=Xj xs x (by omega);rw[show cB kind xs x=(((ih xs x).1),(ih xs x).2) from by grind[cB,ih,kE]];exact afS ⟨h1,aA,eI,aa⟩
 skip
 rcases cU (kind==6) with a7 | a7
 ·skip
  have h5:=Wh xs x (by omega);have JD:=Wf xs x (by omega);rw[show cB kind xs x=((kE xs x),!(n0 xs x)) from by grind[cB,ih,kE]];exact ahk ⟨h1,aA,a7,h5,JD,aa⟩
 skip
 have nK:=wF xs (by omega);rw[show cB kind xs x=(xs,true) from by grind[cB,ih,kE]];exact ahl ⟨h1,aA,a7,nK,aa⟩
def fu(x:Node)(s:gQ)(key val:Int):List az:=x.outs.map fun k=>⟨k,s,key,val⟩
def cellOf(r:az):Cell:=⟨r.op,r.bl.ba,r.key,r.val⟩
def dV(g:bX)(cs:List Cell)(r:az)(x:Node):List Cell×List az×Bool:=
 if ej g&&eO r then
  if !(cK x r.key r.val).2.2&&x.kind != 8 then (cs,[],true)
  else if !(cB x.kind cs ⟨r.op,r.bl.ba,r.key,r.val⟩).2 then ((cB x.kind cs ⟨r.op,r.bl.ba,r.key,r.val⟩).1,[],true)
  else if x.kind=7 then
   ((cB x.kind cs ⟨r.op,r.bl.ba,r.key,r.val⟩).1,(bif (fg r.bl).2 then fu x (fg r.bl).1 (cK x r.key r.val).1 (cK x r.key r.val).2.1 else []),true)
  else ((cB x.kind cs ⟨r.op,r.bl.ba,r.key,r.val⟩).1,fu x r.bl (cK x r.key r.val).1 (cK x r.key r.val).2.1,true)
 else (cs,[],false)
theorem Ah(x:Node)(s:gQ)(key val:Int){i:Nat}{k:Int}(h:x.outs[i]?=some k):(((x.outs.take (i+1)).map fun k=>(⟨k,s,key,val⟩:az)).map az.e)=(((x.outs.take i).map fun k=>(⟨k,s,key,val⟩:az)).map az.e)++[(⟨k,s,key,val⟩:az).e]:=by
 simp[o4,h]
theorem Xm(x:Node)(ag:x.outs.length<=8388608)(s:gQ)(key val:Int)(jO:List (List D)):c8 prog (ap f180 0) (x1 x.kind x.a x.b (x.outs.map bd) key val jO s.ba s.dc 0 []) (.exit 0) (vU jO ((fu x s key val).map az.e)):=by
 have l:=er (P:=prog) (c:=(ap f180 0)) (cn 0) x.outs.length (fun i:Nat=>x1 x.kind x.a x.b (x.outs.map bd) key val jO s.ba s.dc i (((x.outs.take i).map fun k=>(⟨k,s,key,val⟩:az)).map az.e)) (fun i hi=>by
  obtain⟨k,hk⟩:=c5 hi;rw[Ah x s key val hk];exact aqq ⟨bV hi,bx,bH hi,bA bd hk,by simp;omega,by simp;omega,gb (az.flat ⟨k,s,key,val⟩),c0 hi ag,aa⟩) (apR ⟨dq,aa⟩)
 rw[jh]at l;exact l
theorem Xn(x:Node)(ag:x.outs.length<=8388608)(s:gQ)(key val:Int)(jO:List (List D)):c8 prog (ap f180 0) (x2 s.ba s.dc x.kind x.a x.b (x.outs.map bd) key val jO 0 []) (.exit 0) (vU jO ((fu x s key val).map az.e)):=by
 have l:=er (P:=prog) (c:=(ap f180 0)) (cn 0) x.outs.length (fun i:Nat=>x2 s.ba s.dc x.kind x.a x.b (x.outs.map bd) key val jO i (((x.outs.take i).map fun k=>(⟨k,s,key,val⟩:az)).map az.e)) (fun i hi=>by
  obtain⟨k,hk⟩:=c5 hi;rw[Ah x s key val hk];exact apT ⟨bV hi,bx,bH hi,bA bd hk,by simp;omega,by simp;omega,gb (az.flat ⟨k,s,key,val⟩),c0 hi ag,aa⟩) (apU ⟨dq,aa⟩)
 rw[jh]at l;exact l
theorem WO(x:Node)(ag:x.outs.length<=8388608)(s:gQ)(key val:Int)(jO:List (List D)):c8 prog (ap f180 0) (x3 jO x.kind x.a x.b (x.outs.map bd) key val s.ba s.dc 0 []) (.exit 0) (vV jO ((fu x s key val).map az.e)):=by
 have l:=er (P:=prog) (c:=(ap f180 0)) (cn 0) x.outs.length (fun i:Nat=>x3 jO x.kind x.a x.b (x.outs.map bd) key val s.ba s.dc i (((x.outs.take i).map fun k=>(⟨k,s,key,val⟩:az)).map az.e)) (fun i hi=>by
  obtain⟨k,hk⟩:=c5 hi;rw[Ah x s key val hk];exact apX ⟨bV hi,bx,bH hi,bA bd hk,by simp;omega,by simp;omega,gb (az.flat ⟨k,s,key,val⟩),c0 hi ag,aa⟩) (apY ⟨dq,aa⟩)
 rw[jh]at l;exact l
theorem WQ(x:Node)(ag:x.outs.length<=8388608)(s:gQ)(key val:Int)(jO:List (List D)):c8 prog (ap f180 0) (x4 jO s.ba s.dc x.kind x.a x.b (x.outs.map bd) key val 0 []) (.exit 0) (vV jO ((fu x s key val).map az.e)):=by
 have l:=er (P:=prog) (c:=(ap f180 0)) (cn 0) x.outs.length (fun i:Nat=>x4 jO s.ba s.dc x.kind x.a x.b (x.outs.map bd) key val i (((x.outs.take i).map fun k=>(⟨k,s,key,val⟩:az)).map az.e)) (fun i hi=>by
  obtain⟨k,hk⟩:=c5 hi;rw[Ah x s key val hk];exact ap0 ⟨bV hi,bx,bH hi,bA bd hk,by simp;omega,by simp;omega,gb (az.flat ⟨k,s,key,val⟩),c0 hi ag,aa⟩) (aru ⟨dq,aa⟩)
 rw[jh]at l;exact l
theorem WR(x:Node)(ag:x.outs.length<=8388608)(s:gQ)(key val:Int)(jO:List (List D)):c8 prog (ap f171 0) (x5 s.ba s.dc (x.outs.map bd) key val jO 0 []) (.exit 0) (vW jO ((fu x s key val).map az.e)):=by
 have l:=er (P:=prog) (c:=(ap f171 0)) (cn 0) x.outs.length (fun i:Nat=>x5 s.ba s.dc (x.outs.map bd) key val jO i (((x.outs.take i).map fun k=>(⟨k,s,key,val⟩:az)).map az.e)) (fun i hi=>by
  obtain⟨k,hk⟩:=c5 hi;rw[Ah x s key val hk];exact arJ ⟨bV hi,bx,bH hi,bA bd hk,rfl,by simp;omega,by simp;omega,gb (az.flat ⟨k,s,key,val⟩),c0 hi ag,aa⟩) (arK ⟨dq,aa⟩)
 rw[jh]at l;exact l
theorem WS(x:Node)(ag:x.outs.length<=8388608)(b:Bool)(s:gQ)(key val:Int)(jO:List (List D)):c8 prog (ap f171 0) (s6 (x.outs.map bd) key val jO s.ba s.dc b 0 []) (.exit 0) (vW jO ((bif b then fu x s key val else []).map az.e)):=by
 cases b with
 | true=>
  have l:=er (P:=prog) (c:=(ap f171 0)) (cn 0) x.outs.length (fun i:Nat=>s6 (x.outs.map bd) key val jO s.ba s.dc true i (((x.outs.take i).map fun k=>(⟨k,s,key,val⟩:az)).map az.e)) (fun i hi=>by
   obtain⟨k,hk⟩:=c5 hi;rw[Ah x s key val hk];exact arG ⟨bV hi,bx,bH hi,bA bd hk,rfl,by simp;omega,by simp;omega,gb (az.flat ⟨k,s,key,val⟩),c0 hi ag,aa⟩) (Xh ⟨dq,aa⟩)
  rw[jh]at l;exact l
 | false=>
  exact er (P:=prog) (c:=(ap f171 0)) (cn 0) x.outs.length (fun i:Nat=>s6 (x.outs.map bd) key val jO s.ba s.dc false i []) (fun i hi=>by
   obtain⟨k,hk⟩:=c5 hi;exact arH ⟨bV hi,bx,bH hi,bA bd hk,rfl,c0 hi ag,aa⟩) (Xh ⟨dq,aa⟩)
theorem aq6(g:bX)(cs:List Cell)(r:az)(x:Node)(ay:g.sz<=8388608)(al:cs.length<=8388608)(aW:fZ g r.op=some x):ar 180 [.agg g.e,.one (.J 4 (cs.map Cell.e)),.agg r.e] [.one (.J 4 ((dV g cs r x).1.map Cell.e)),.one (.J 5 ((dV g cs r x).2.1.map az.e)),.one (B (dV g cs r x).2.2)]:=by
 have ag:=bX.Cz ay (NR aW);obtain⟨oE,ub,_,_⟩:=G4 aW;have dG:g.nodes[r.op.toNat]?=some x:=by simp_all[fZ,bq]
 have c1:=G6 g r.op (x,true) (by grind[wG]) ay;have c2:=Ab g ay;rcases cU (ej g) with aA | aA
 ·skip
  have eI:=uT r;rcases cU (eO r) with a7 | a7
  ·skip
   have h5:=amn x r.key r.val ag;rcases cU ((cK x r.key r.val).2.2) with b1 | b1
   ·skip
    have nK:=Xi x.kind;rcases cU (gS x.kind) with ez | ez
    ·skip
     have y8:=Xk x.kind cs (⟨r.op,r.bl.ba,r.key,r.val⟩:Cell) (by omega);rcases cU ((cB x.kind cs (⟨r.op,r.bl.ba,r.key,r.val⟩:Cell)).2) with iS | iS
     ·skip
      rcases cU (x.kind==7) with jl | jl
      ·skip
       have oh:=Aa r.bl;rcases cU ((fg r.bl).2) with mm | mm
       ·skip
        
        rw[show dV g cs r x=(((cB x.kind cs (⟨r.op,r.bl.ba,r.key,r.val⟩:Cell)).1),(fu x ((fg r.bl).1) ((cK x r.key r.val).1) ((cK x r.key r.val).2.1)),true) from by grind[dV,gS,cB]];exact ary ⟨(by grind),(by grind),(by grind[b',ew,dt,Cell.flat,aL]),c1,rfl,c2,(by rw[aA];rfl),eI,(by rw[a7];rfl),h5,(by rw[b1];rfl),nK,ez,y8,(by rw[iS];rfl),jl,oh,(by rw[mm];rfl),(Xm x ag ((fg r.bl).1) ((cK x r.key r.val).1) ((cK x r.key r.val).2.1) _),aa⟩
       skip
       rw[show dV g cs r x=(((cB x.kind cs (⟨r.op,r.bl.ba,r.key,r.val⟩:Cell)).1),([]:List az),true) from by grind[dV,gS,cB]];exact arx ⟨(by grind),(by grind),(by grind[b',ew,dt,Cell.flat,aL]),c1,rfl,c2,(by rw[aA];rfl),eI,(by rw[a7];rfl),h5,(by rw[b1];rfl),nK,ez,y8,(by rw[iS];rfl),jl,oh,(by rw[mm];rfl),aa⟩
      skip
      
      rw[show dV g cs r x=(((cB x.kind cs (⟨r.op,r.bl.ba,r.key,r.val⟩:Cell)).1),(fu x r.bl ((cK x r.key r.val).1) ((cK x r.key r.val).2.1)),true) from by grind[dV,gS,cB]];exact arz ⟨(by grind),(by grind),(by grind[b',ew,dt,Cell.flat,aL]),c1,rfl,c2,(by rw[aA];rfl),eI,(by rw[a7];rfl),h5,(by rw[b1];rfl),nK,ez,y8,(by rw[iS];rfl),jl,(Xn x ag r.bl ((cK x r.key r.val).1) ((cK x r.key r.val).2.1) _),aa⟩
     skip
     rw[show dV g cs r x=(((cB x.kind cs (⟨r.op,r.bl.ba,r.key,r.val⟩:Cell)).1),([]:List az),true) from by grind[dV,gS,cB]];exact arw ⟨(by grind),(by grind),(by grind[b',ew,dt,Cell.flat,aL]),c1,rfl,c2,(by rw[aA];rfl),eI,(by rw[a7];rfl),h5,(by rw[b1];rfl),nK,ez,y8,(by rw[iS];rfl),aa⟩
    skip
    rcases cU (x.kind==7) with ku | ku
    ·skip
     have Fa:=Aa r.bl;rcases cU ((fg r.bl).2) with sC | sC
     ·skip
      
      rw[show dV g cs r x=(cs,(fu x ((fg r.bl).1) ((cK x r.key r.val).1) ((cK x r.key r.val).2.1)),true) from by grind[dV,gS,cB]];exact arB ⟨(by grind),(by grind),(by grind[b',ew,dt,Cell.flat,aL]),c1,rfl,c2,(by rw[aA];rfl),eI,(by rw[a7];rfl),h5,(by rw[b1];rfl),nK,ez,ku,Fa,(by rw[sC];rfl),(WO x ag ((fg r.bl).1) ((cK x r.key r.val).1) ((cK x r.key r.val).2.1) _),aa⟩
     skip
     rw[show dV g cs r x=(cs,([]:List az),true) from by grind[dV,gS,cB]];exact arA ⟨(by grind),(by grind),(by grind[b',ew,dt,Cell.flat,aL]),c1,rfl,c2,(by rw[aA];rfl),eI,(by rw[a7];rfl),h5,(by rw[b1];rfl),nK,ez,ku,Fa,(by rw[sC];rfl),aa⟩
    skip
    
    rw[show dV g cs r x=(cs,(fu x r.bl ((cK x r.key r.val).1) ((cK x r.key r.val).2.1)),true) from by grind[dV,gS,cB]];exact arC ⟨(by grind),(by grind),(by grind[b',ew,dt,Cell.flat,aL]),c1,rfl,c2,(by rw[aA];rfl),eI,(by rw[a7];rfl),h5,(by rw[b1];rfl),nK,ez,ku,(WQ x ag r.bl ((cK x r.key r.val).1) ((cK x r.key r.val).2.1) _),aa⟩
   skip
   rcases cU (x.kind != 8) with hP | hP
   ·skip
    rw[show dV g cs r x=(cs,([]:List az),true) from by grind[dV,gS,cB]];exact aqn ⟨(by grind),(by grind),(by grind[b',ew,dt,Cell.flat,aL]),c1,rfl,c2,(by rw[aA];rfl),eI,(by rw[a7];rfl),h5,(by rw[b1];rfl),hP,aa⟩
   skip
   have j4:=Xi x.kind;rcases cU (gS x.kind) with fz | fz
   ·skip
    have oi:=Xk x.kind cs (⟨r.op,r.bl.ba,r.key,r.val⟩:Cell) (by omega);rcases cU ((cB x.kind cs (⟨r.op,r.bl.ba,r.key,r.val⟩:Cell)).2) with mn | mn
    ·skip
     rcases cU (x.kind==7) with kU | kU
     ·skip
      have RK:=Aa r.bl;rcases cU ((fg r.bl).2) with rb | rb
      ·skip
       
       rw[show dV g cs r x=(((cB x.kind cs (⟨r.op,r.bl.ba,r.key,r.val⟩:Cell)).1),(fu x ((fg r.bl).1) ((cK x r.key r.val).1) ((cK x r.key r.val).2.1)),true) from by grind[dV,gS,cB]];exact apS ⟨(by first | omega | (simp only[b',ew];omega) | exact dt _ Cell.flat _ | grind[aL]),(by first | omega | (simp only[b',ew];omega) | exact dt _ Cell.flat _ | grind[aL]),(by first | omega | (simp only[b',ew];omega) | exact dt _ Cell.flat _ | grind[aL]),c1,rfl,c2,(by rw[aA];rfl),eI,(by rw[a7];rfl),h5,(by rw[b1];rfl),hP,j4,fz,oi,(by rw[mn];rfl),kU,RK,(by rw[rb];rfl),(Xm x ag ((fg r.bl).1) ((cK x r.key r.val).1) ((cK x r.key r.val).2.1) _),aa⟩
      skip
      rw[show dV g cs r x=(((cB x.kind cs (⟨r.op,r.bl.ba,r.key,r.val⟩:Cell)).1),([]:List az),true) from by grind[dV,gS,cB]];exact aqp ⟨(by first | omega | (simp only[b',ew];omega) | exact dt _ Cell.flat _ | grind[aL]),(by first | omega | (simp only[b',ew];omega) | exact dt _ Cell.flat _ | grind[aL]),(by first | omega | (simp only[b',ew];omega) | exact dt _ Cell.flat _ | grind[aL]),c1,rfl,c2,(by rw[aA];rfl),eI,(by rw[a7];rfl),h5,(by rw[b1];rfl),hP,j4,fz,oi,(by rw[mn];rfl),kU,RK,(by rw[rb];rfl),aa⟩
     skip
     
     rw[show dV g cs r x=(((cB x.kind cs (⟨r.op,r.bl.ba,r.key,r.val⟩:Cell)).1),(fu x r.bl ((cK x r.key r.val).1) ((cK x r.key r.val).2.1)),true) from by grind[dV,gS,cB]];exact apV ⟨(by grind),(by grind),(by grind[b',ew,dt,Cell.flat,aL]),c1,rfl,c2,(by rw[aA];rfl),eI,(by rw[a7];rfl),h5,(by rw[b1];rfl),hP,j4,fz,oi,(by rw[mn];rfl),kU,(Xn x ag r.bl ((cK x r.key r.val).1) ((cK x r.key r.val).2.1) _),aa⟩
    skip
    rw[show dV g cs r x=(((cB x.kind cs (⟨r.op,r.bl.ba,r.key,r.val⟩:Cell)).1),([]:List az),true) from by grind[dV,gS,cB]];exact aqo ⟨(by grind),(by grind),(by grind[b',ew,dt,Cell.flat,aL]),c1,rfl,c2,(by rw[aA];rfl),eI,(by rw[a7];rfl),h5,(by rw[b1];rfl),hP,j4,fz,oi,(by rw[mn];rfl),aa⟩
   skip
   rcases cU (x.kind==7) with rc | rc
   ·skip
    have RL:=Aa r.bl;rcases cU ((fg r.bl).2) with ph | ph
    ·skip
     
     rw[show dV g cs r x=(cs,(fu x ((fg r.bl).1) ((cK x r.key r.val).1) ((cK x r.key r.val).2.1)),true) from by grind[dV,gS,cB]];exact apZ ⟨(by first | omega | (simp only[b',ew];omega) | exact dt _ Cell.flat _ | grind[aL]),(by first | omega | (simp only[b',ew];omega) | exact dt _ Cell.flat _ | grind[aL]),(by first | omega | (simp only[b',ew];omega) | exact dt _ Cell.flat _ | grind[aL]),c1,rfl,c2,(by rw[aA];rfl),eI,(by rw[a7];rfl),h5,(by rw[b1];rfl),hP,j4,fz,rc,RL,(by rw[ph];rfl),(WO x ag ((fg r.bl).1) ((cK x r.key r.val).1) ((cK x r.key r.val).2.1) _),aa⟩
    skip
    rw[show dV g cs r x=(cs,([]:List az),true) from by grind[dV,gS,cB]];exact apW ⟨(by first | omega | (simp only[b',ew];omega) | exact dt _ Cell.flat _ | grind[aL]),(by first | omega | (simp only[b',ew];omega) | exact dt _ Cell.flat _ | grind[aL]),(by first | omega | (simp only[b',ew];omega) | exact dt _ Cell.flat _ | grind[aL]),c1,rfl,c2,(by rw[aA];rfl),eI,(by rw[a7];rfl),h5,(by rw[b1];rfl),hP,j4,fz,rc,RL,(by rw[ph];rfl),aa⟩
   skip
   
   rw[show dV g cs r x=(cs,(fu x r.bl ((cK x r.key r.val).1) ((cK x r.key r.val).2.1)),true) from by grind[dV,gS,cB]];exact arv ⟨(by grind),(by grind),(by grind[b',ew,dt,Cell.flat,aL]),c1,rfl,c2,(by rw[aA];rfl),eI,(by rw[a7];rfl),h5,(by rw[b1];rfl),hP,j4,fz,rc,(WQ x ag r.bl ((cK x r.key r.val).1) ((cK x r.key r.val).2.1) _),aa⟩
  skip
  rw[show dV g cs r x=(cs,([]:List az),false) from by grind[dV,gS,cB]];exact aqm ⟨(by grind),(by grind),(by grind[b',ew,dt,Cell.flat,aL]),c1,rfl,c2,(by rw[aA];rfl),eI,(by rw[a7];rfl),aa⟩
 skip
 rw[show dV g cs r x=(cs,([]:List az),false) from by grind[dV,gS,cB]];exact aql ⟨(by grind),(by grind),(by grind[b',ew,dt,Cell.flat,aL]),c1,rfl,c2,(by rw[aA];rfl),aa⟩
theorem aq7(g:bX)(cs:List Cell)(r:az)(x:Node)(ay:g.sz<=8388608)(al:cs.length<=8388608)(aW:fZ g r.op=some x):ar 171 [.agg g.e,.one (.J 4 (cs.map Cell.e)),.agg r.e] [.one (.J 4 ((dV g cs r x).1.map Cell.e)),.one (.J 5 ((dV g cs r x).2.1.map az.e)),.one (B (dV g cs r x).2.2)]:=by
 have ag:=bX.Cz ay (NR aW);obtain⟨oE,ub,_,_⟩:=G4 aW;have dG:g.nodes[r.op.toNat]?=some x:=by simp_all[fZ,bq]
 have c1:=Ac g ay;rcases cU (ej g) with U | U
 ·skip
  have cP:=wI r;rcases cU (eO r) with aJ | aJ
  ·skip
   have hc:=z' g r.op true (by rw[aW];rfl) ay;have h5:=amo x r.key r.val ag;rcases cU ((cK x r.key r.val).2.2) with b1 | b1
   ·skip
    have nK:=Xl x.kind cs (⟨r.op,r.bl.ba,r.key,r.val⟩:Cell) (by omega);rcases cU ((cB x.kind cs (⟨r.op,r.bl.ba,r.key,r.val⟩:Cell)).2) with ez | ez
    ·skip
     rcases cU (x.kind==7) with dZ | dZ
     ·skip
      have q8:=No r.bl
      
      rw[show dV g cs r x=(((cB x.kind cs (⟨r.op,r.bl.ba,r.key,r.val⟩:Cell)).1),(bif (fg r.bl).2 then fu x ((fg r.bl).1) ((cK x r.key r.val).1) ((cK x r.key r.val).2.1) else []),true) from by grind[dV,gS,cB]];exact arN ⟨c1,(by rw[U];rfl),cP,(by rw[aJ];rfl),hc,rfl,(by grind),(by grind),(bS Node.e dG),h5,(by rw[b1];rfl),nK,(by rw[ez];rfl),dZ,q8,(WS x ag ((fg r.bl).2) ((fg r.bl).1) ((cK x r.key r.val).1) ((cK x r.key r.val).2.1) _),aa⟩
     skip
     
     rw[show dV g cs r x=(((cB x.kind cs (⟨r.op,r.bl.ba,r.key,r.val⟩:Cell)).1),(fu x r.bl ((cK x r.key r.val).1) ((cK x r.key r.val).2.1)),true) from by grind[dV,gS,cB]];exact arO ⟨c1,(by rw[U];rfl),cP,(by rw[aJ];rfl),hc,rfl,(by grind),(by grind),(bS Node.e dG),h5,(by rw[b1];rfl),nK,(by rw[ez];rfl),dZ,(WR x ag r.bl ((cK x r.key r.val).1) ((cK x r.key r.val).2.1) _),aa⟩
    skip
    rw[show dV g cs r x=(((cB x.kind cs (⟨r.op,r.bl.ba,r.key,r.val⟩:Cell)).1),([]:List az),true) from by grind[dV,gS,cB]];exact arM ⟨c1,(by rw[U];rfl),cP,(by rw[aJ];rfl),hc,rfl,(by grind),(by grind),(bS Node.e dG),h5,(by rw[b1];rfl),nK,(by rw[ez];rfl),aa⟩
   skip
   rcases cU (x.kind != 8) with jl | jl
   ·skip
    have oh:=wF cs (by omega);rw[show dV g cs r x=(cs,([]:List az),true) from by grind[dV,gS,cB]];exact arE ⟨c1,(by rw[U];rfl),cP,(by rw[aJ];rfl),hc,rfl,(by grind),(by grind),(bS Node.e dG),h5,(by rw[b1];rfl),jl,oh,aa⟩
   skip
   have JC:=Xl x.kind cs (⟨r.op,r.bl.ba,r.key,r.val⟩:Cell) (by omega);rcases cU ((cB x.kind cs (⟨r.op,r.bl.ba,r.key,r.val⟩:Cell)).2) with ku | ku
   ·skip
    rcases cU (x.kind==7) with cH | cH
    ·skip
     have mT:=No r.bl
     
     rw[show dV g cs r x=(((cB x.kind cs (⟨r.op,r.bl.ba,r.key,r.val⟩:Cell)).1),(bif (fg r.bl).2 then fu x ((fg r.bl).1) ((cK x r.key r.val).1) ((cK x r.key r.val).2.1) else []),true) from by grind[dV,gS,cB]];exact arI ⟨c1,(by rw[U];rfl),cP,(by rw[aJ];rfl),hc,rfl,(by first | omega | (simp only[b',ew];omega) | exact dt _ Cell.flat _ | grind[aL]),(by first | omega | (simp only[b',ew];omega) | exact dt _ Cell.flat _ | grind[aL]),(bS Node.e dG),h5,(by rw[b1];rfl),jl,JC,(by rw[ku];rfl),cH,mT,(WS x ag ((fg r.bl).2) ((fg r.bl).1) ((cK x r.key r.val).1) ((cK x r.key r.val).2.1) _),aa⟩
    skip
    
    rw[show dV g cs r x=(((cB x.kind cs (⟨r.op,r.bl.ba,r.key,r.val⟩:Cell)).1),(fu x r.bl ((cK x r.key r.val).1) ((cK x r.key r.val).2.1)),true) from by grind[dV,gS,cB]];exact arL ⟨c1,(by rw[U];rfl),cP,(by rw[aJ];rfl),hc,rfl,(by grind),(by grind),(bS Node.e dG),h5,(by rw[b1];rfl),jl,JC,(by rw[ku];rfl),cH,(WR x ag r.bl ((cK x r.key r.val).1) ((cK x r.key r.val).2.1) _),aa⟩
   skip
   rw[show dV g cs r x=(((cB x.kind cs (⟨r.op,r.bl.ba,r.key,r.val⟩:Cell)).1),([]:List az),true) from by grind[dV,gS,cB]];exact arF ⟨c1,(by rw[U];rfl),cP,(by rw[aJ];rfl),hc,rfl,(by grind),(by grind),(bS Node.e dG),h5,(by rw[b1];rfl),jl,JC,(by rw[ku];rfl),aa⟩
  skip
  have acS:=wF cs (by omega);rw[show dV g cs r x=(cs,([]:List az),false) from by grind[dV,gS,cB]];exact Xg ⟨c1,(by rw[U];rfl),cP,(by rw[aJ];rfl),acS,aa⟩
 skip
 have j4:=wF cs (by omega);rw[show dV g cs r x=(cs,([]:List az),false) from by grind[dV,gS,cB]];exact Xf ⟨c1,(by rw[U];rfl),j4,aa⟩
