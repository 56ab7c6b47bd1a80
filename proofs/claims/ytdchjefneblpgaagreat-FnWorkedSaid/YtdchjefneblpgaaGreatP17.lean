import Derived.Test.YtdchjefneblpgaaGreatP16
import Derived.Test.YtdchjefneblpgaaGreatGS
set_option linter.unusedVariables false
set_option linter.unusedSimpArgs false
namespace Go.Proofs.YtdchjefneblpgaaGreat
open Go.Sx Go.RowKit Go.Proofs.Tryz
theorem acw{P:Program}{f:Nat}{args:List GA}{k:Nat}{l gu:List (List D)}(h:kI P f args [.one (.J k l)])(al:l=gu):kI P f args [.one (.J k gu)]:=al▸h
theorem J0(xs:List Cell)(p:Cell->Bool)(g:Nat)(bC:List D)(al:xs.length<=8388608)(ai:iQ prog g=true)(hp:∀x∈xs,∀r,p x=r->av g ([.agg x.e]++bC.map .one) [.one (B r)]):
  ∀(n i:Nat) (ys:List Cell),n+i=xs.length->ys.length=xs.length->ys.drop i=xs.drop i->ys.take ((xs.take i).filter fun a=>!p a).length=(xs.take i).filter (fun a=>!p a)->
  ∃zs:List Cell,c3 prog (aq f345 0) (tA g bC i ((xs.take i).filter fun a=>!p a).length (ys.map Cell.e)) (.exit 0) (Kk (zs.map Cell.e) (xs.filter fun a=>!p a).length)/\zs.length=xs.length/\zs.take (xs.filter fun a=>!p a).length=xs.filter (fun a=>!p a)
 | 0,i,ys,hi,bl,_,bQ=>by
  have e:xs.take i=xs:=vX (by omega);rw[e]at bQ ⊢;exact⟨ys,.last (cM 0) (aoi ⟨eT (by simp;omega),aa⟩),bl,bQ⟩
 | n+1,i,ys,hi,bl,aD,bQ=>by
  obtain⟨a,ah⟩:=c0 (xs:=xs) (i:=i) (by omega);have N6:ys[i]?=some a:=by
   have e1:ys[i]?=(ys.drop i)[0]?:=by simp
   have e2:xs[i]?=(xs.drop i)[0]?:=by simp
   rw[e1,aD,<-e2,ah]
  have bT:=zp (fun a=>!p a) ah;have hle:=Kn (fun a=>!p a) xs i;have uJ:ys.drop (i+1)=xs.drop (i+1):=by
   have:=congrArg (List.drop 1) aD;simpa[List.drop_drop,Nat.add_comm]using this
  cases h:p a with
  | true=>
   rw[h]at bT;simp only[iW,oU,lD,lz]at bT;obtain⟨zs,h1,U,aw⟩:=J0 xs p g bC al ai hp n (i+1) ys (by omega) bl uJ (by rw[bT];exact bQ);rw[bT]at h1;exact⟨zs,.more (aoh ⟨dW (by simp;omega),bF,by simp;omega,bG Cell.e N6,ai,hp a (eA ah) true h,rfl,⟨by omega,by omega⟩,aa⟩) h1,U,aw⟩
  | false=>
   rw[h]at bT;simp only[n1,gy]at bT;generalize a6:((xs.take i).filter fun a=>!p a).length=j at*;obtain⟨b,ar⟩:=c0 (xs:=ys) (i:=j) (by omega);obtain⟨zs,h1,U,aw⟩:=J0 xs p g bC al ai hp n (i+1) (ys.set j a) (by omega) (by simpa using bl) (by rw[List.drop_set_of_lt (by omega)];exact uJ) (by
    rw[bT,km,a6,List.length_singleton,List.take_set,<-bQ];have jD:j<ys.length:=by omega
    rw[List.take_succ_eq_append_getElem jD,List.set_append_right _ _ (by simp;omega)];simp[oV,Nat.min_eq_left (Nat.le_of_lt jD)])
   rw[bT,km,a6,List.length_singleton]at h1;refine⟨zs,.more (Ly (fun l=>tA g bC ((i+1:Nat):Int) ((j+1:Nat):Int) l) (aog ⟨dW (by simp;omega),bF,by simp;omega,bG Cell.e N6,ai,hp a (eA ah) false h,rfl,bF,by simp;omega,bG Cell.e ar,⟨by omega,by omega⟩,⟨by omega,by omega⟩,aa⟩) ?_) h1,U,aw⟩;show List.set _ _ a.e=_;rw[oR,<-jw]
theorem abU(xs:List Cell)(p:Cell->Bool)(g:Nat)(bC:List D)(al:xs.length<=8388608)(ai:iQ prog g=true)(hp:∀x∈xs,av g ([.agg x.e]++bC.map .one) [.one (B (p x))]):
  kI prog 345 [.one (.e9 4 (xs.map Cell.e) none),.one (.ro (.cl g bC))] [.one (.J 4 ((xs.filter fun a=>!p a).map Cell.e))]:=by
 have pw:∀x∈xs,∀r,p x=r->av g ([.agg x.e]++bC.map .one) [.one (B r)]:=fun x ag r h=>h▸hp x ag
 have pB:=apl xs p g bC al ai hp;unfold rO at pB;cases h:xs.findIdx? p with
 | none=>
  rw[h]at pB;rw[Bs]at h;have e:(xs.filter fun a=>!p a)=xs:=List.filter_eq_self.2 fun a ah=>by simp[h a ah]
  rw[e];exact aof ⟨pB,rfl,aa⟩
 | some i=>
  rw[h]at pB;change h2 _ _ _ [.one (I (i:Int))]at pB;rw[tZ]at h;obtain⟨hi,U,aw⟩:=h;have ag:xs[i]?=some xs[i]:=gU hi;have bE:(xs.take i).filter (fun a=>!p a)=xs.take i:=List.filter_eq_self.2 fun a ah=>by
   obtain⟨j,a6,rfl⟩:=List.getElem_of_mem ah;have nt:j<i:=by simp at a6;omega
   have:=aw j nt;simpa using this
  have e1:=zp (fun a=>!p a) ag;rw[U]at e1;simp only[iW,oU,lD,lz]at e1;rw[bE]at e1;have e2:(xs.take i).length=i:=by rw[oV];omega
  obtain⟨zs,l,bf,bQ⟩:=J0 xs p g bC al ai pw (xs.length-(i+1)) (i+1) xs (by omega) rfl rfl (by rw[e1,e2]);rw[e1,e2]at l;have bz:(xs.filter fun a=>!p a).length<xs.length:=by
   have cb:xs.filter (fun a=>!p a)=xs.take i++(xs.drop (i+1)).filter fun a=>!p a:=by
    have:=VP (i+1) xs;rw[<-this,List.filter_append,this,e1]
   rw[cb,km,e2];have:=q2 (fun a=>!p a) (xs.drop (i+1));rw[List.length_drop]at this;omega
  generalize xs.filter (fun a=>!p a)=eH at*;refine acw (aoj ⟨pB,ua.2 (by omega),⟨by omega,by omega⟩,l,by simp,by simp;omega,cf _ Cell.flat _,by simp,by simp,by simp;omega,aa⟩) ?_;simp only[ij,oR,Nat.sub_zero,v7,<-q6];rw[bQ,E9 (by simp),vX (by simp)]
def fR(k:Int):Bool:=k==5||k==6||k==8
def iS(xs:List Cell)(x:Cell):List Cell×Bool:=
 if (pU xs x.op x.bc x.key).2&&decide ((pU xs x.op x.bc x.key).1<=x.val) then (xs,false) else (j4 (xs.filter fun a=>!eR x a) x,true)
def c4(kind:Int)(xs:List Cell)(x:Cell):List Cell×Bool:=
 if kind=6 then (if nS xs x then (xs,false) else (j4 xs x,true))
 else if kind=5\/kind=8 then iS xs x
 else (xs,true)
theorem Sj(k:Int):av 268 [.one (I k)] [.one (B (fR k))]:=by
 rcases cI (k==5) with h1 | h1
 ·skip
  rw[show fR k=true from by grind[fR]];exact an6 ⟨h1,aa⟩
 skip
 rcases cI (k==6) with U | U
 ·skip
  rw[show fR k=true from by grind[fR]];exact an7 ⟨h1,U,aa⟩
 skip
 rw[show fR k=(k==8) from by grind[fR]];exact an8 ⟨h1,U,aa⟩
theorem Sk(xs:List Cell)(x:Cell)(al:xs.length<=8388608):av 318 [.one (.J 4 (xs.map Cell.e)),.agg x.e] [.one (.J 4 ((iS xs x).1.map Cell.e)),.one (B (iS xs x).2)]:=by
 have c:=ZF xs x.op x.bc x.key al;have dV:=tB xs al;have d:=abU xs (eR x) 346 [D.ptr x.e] al (by kernel_rfl) (fun y _=>aoe ⟨Ra x y,aa⟩);have Ow:=QZ (xs.filter fun a=>!eR x a) x (sv (q2 ..) al);unfold iS;generalize pU xs x.op x.bc x.key=m at*;obtain⟨v,f⟩:=m;cases f with
 | false=>exact aos ⟨c,rfl,dV,d,Ow,aa⟩
 | true=>
  by_cases h:v<=x.val
  ·rw[dW h];exact aoq ⟨c,rfl,dW h,dV,aa⟩
  rw[eT h];exact aor ⟨c,rfl,eT h,dV,d,Ow,aa⟩
theorem abV(xs acc:List Cell)(x:Cell)(al:xs.length<=8388608)(i:Nat)(ai:acc.length<=i)(a:Cell)(ah:xs[i]?=some a):gl prog (aq f269 0) (kW (xs.map Cell.e) x.op x.bc x.key x.val i (acc.map Cell.e)) .normal (kW (xs.map Cell.e) x.op x.bc x.key x.val ((i+1:Nat):Int) ((acc++(bif eR x a then [] else [a])).map Cell.e)):=by
 have a6:=a8 ah;have dh:xs[(i:Int).toNat]?=some a:=by simpa using ah
 have ee:decide ((i:Int)<(↑(xs.map Cell.e).length:Int))=true:=b' a6;rcases cI (a.op != x.op) with h1 | h1
 ·skip
  have aj:eR x a=false:=by grind[eR]
  rw[aj];rw[show (acc++(bif false then [] else [a])).map Cell.e=acc.map Cell.e++[a.e] from by simp];exact anC ⟨ee,(by first | omega | (simp only[bk,dN,bW];omega) | exact dL a.flat | (exact⟨by omega,by omega⟩)),(by first | omega | (simp only[bk,dN,bW];omega) | exact dL a.flat | (exact⟨by omega,by omega⟩)),(bH Cell.e dh),h1,(by first | omega | (simp only[bk,dN,bW];omega) | exact dL a.flat | (exact⟨by omega,by omega⟩)),(by first | omega | (simp only[bk,dN,bW];omega) | exact dL a.flat | (exact⟨by omega,by omega⟩)),(bH Cell.e dh),(by first | omega | (simp only[bk,dN,bW];omega) | exact dL a.flat | (exact⟨by omega,by omega⟩)),(by first | omega | (simp only[bk,dN,bW];omega) | exact dL a.flat | (exact⟨by omega,by omega⟩)),(by first | omega | (simp only[bk,dN,bW];omega) | exact dL a.flat | (exact⟨by omega,by omega⟩)),(by first | omega | (simp only[bk,dN,bW];omega) | exact dL a.flat | (exact⟨by omega,by omega⟩)),aa⟩
 skip
 rcases cI (a.bc != x.bc) with U | U
 ·skip
  have aj:eR x a=false:=by grind[eR]
  rw[aj];rw[show (acc++(bif false then [] else [a])).map Cell.e=acc.map Cell.e++[a.e] from by simp];exact anD ⟨ee,(by first | omega | (simp only[bk,dN,bW];omega) | exact dL a.flat | (exact⟨by omega,by omega⟩)),(by first | omega | (simp only[bk,dN,bW];omega) | exact dL a.flat | (exact⟨by omega,by omega⟩)),(bH Cell.e dh),h1,(by first | omega | (simp only[bk,dN,bW];omega) | exact dL a.flat | (exact⟨by omega,by omega⟩)),(by first | omega | (simp only[bk,dN,bW];omega) | exact dL a.flat | (exact⟨by omega,by omega⟩)),(bH Cell.e dh),U,(by first | omega | (simp only[bk,dN,bW];omega) | exact dL a.flat | (exact⟨by omega,by omega⟩)),(by first | omega | (simp only[bk,dN,bW];omega) | exact dL a.flat | (exact⟨by omega,by omega⟩)),(bH Cell.e dh),(by first | omega | (simp only[bk,dN,bW];omega) | exact dL a.flat | (exact⟨by omega,by omega⟩)),(by first | omega | (simp only[bk,dN,bW];omega) | exact dL a.flat | (exact⟨by omega,by omega⟩)),(by first | omega | (simp only[bk,dN,bW];omega) | exact dL a.flat | (exact⟨by omega,by omega⟩)),(by first | omega | (simp only[bk,dN,bW];omega) | exact dL a.flat | (exact⟨by omega,by omega⟩)),aa⟩
 skip
 rcases cI (a.key != x.key) with aw | aw
 ·skip
  have aj:eR x a=false:=by grind[eR]
  rw[aj];rw[show (acc++(bif false then [] else [a])).map Cell.e=acc.map Cell.e++[a.e] from by simp];exact anE ⟨ee,(by first | omega | (simp only[bk,dN,bW];omega) | exact dL a.flat | (exact⟨by omega,by omega⟩)),(by first | omega | (simp only[bk,dN,bW];omega) | exact dL a.flat | (exact⟨by omega,by omega⟩)),(bH Cell.e dh),h1,(by first | omega | (simp only[bk,dN,bW];omega) | exact dL a.flat | (exact⟨by omega,by omega⟩)),(by first | omega | (simp only[bk,dN,bW];omega) | exact dL a.flat | (exact⟨by omega,by omega⟩)),(bH Cell.e dh),U,(by first | omega | (simp only[bk,dN,bW];omega) | exact dL a.flat | (exact⟨by omega,by omega⟩)),(by first | omega | (simp only[bk,dN,bW];omega) | exact dL a.flat | (exact⟨by omega,by omega⟩)),(bH Cell.e dh),aw,(by first | omega | (simp only[bk,dN,bW];omega) | exact dL a.flat | (exact⟨by omega,by omega⟩)),(by first | omega | (simp only[bk,dN,bW];omega) | exact dL a.flat | (exact⟨by omega,by omega⟩)),(bH Cell.e dh),(by first | omega | (simp only[bk,dN,bW];omega) | exact dL a.flat | (exact⟨by omega,by omega⟩)),(by first | omega | (simp only[bk,dN,bW];omega) | exact dL a.flat | (exact⟨by omega,by omega⟩)),(by first | omega | (simp only[bk,dN,bW];omega) | exact dL a.flat | (exact⟨by omega,by omega⟩)),(by first | omega | (simp only[bk,dN,bW];omega) | exact dL a.flat | (exact⟨by omega,by omega⟩)),aa⟩
 skip
 have aj:eR x a=true:=by grind[eR]
 rw[aj];rw[show (acc++(bif true then [] else [a])).map Cell.e=acc.map Cell.e from by simp];exact anF ⟨ee,(by first | omega | (simp only[bk,dN,bW];omega) | exact dL a.flat | (exact⟨by omega,by omega⟩)),(by first | omega | (simp only[bk,dN,bW];omega) | exact dL a.flat | (exact⟨by omega,by omega⟩)),(bH Cell.e dh),h1,(by first | omega | (simp only[bk,dN,bW];omega) | exact dL a.flat | (exact⟨by omega,by omega⟩)),(by first | omega | (simp only[bk,dN,bW];omega) | exact dL a.flat | (exact⟨by omega,by omega⟩)),(bH Cell.e dh),U,(by first | omega | (simp only[bk,dN,bW];omega) | exact dL a.flat | (exact⟨by omega,by omega⟩)),(by first | omega | (simp only[bk,dN,bW];omega) | exact dL a.flat | (exact⟨by omega,by omega⟩)),(bH Cell.e dh),aw,(by first | omega | (simp only[bk,dN,bW];omega) | exact dL a.flat | (exact⟨by omega,by omega⟩)),aa⟩
theorem abW(p:Cell->Bool){xs:List Cell}{i:Nat}{a:Cell}(h:xs[i]?=some a):(xs.take (i+1)).filter (fun b=>!p b)=(xs.take i).filter (fun b=>!p b)++(bif p a then [] else [a]):=by
 rw[zp _ h];cases p a<;>rfl
theorem DY(xs:List Cell)(x:Cell)(al:xs.length<=8388608):c3 prog (aq f269 0) (kW (xs.map Cell.e) x.op x.bc x.key x.val 0 []) (.exit 1) (xx x.op x.bc x.key x.val ((xs.filter fun a=>!eR x a).map Cell.e)):=by
 have l:=eY (P:=prog) (c:=(aq f269 0)) (cM 1) xs.length (fun i:Nat=>kW (xs.map Cell.e) x.op x.bc x.key x.val i (((xs.take i).filter fun a=>!eR x a).map Cell.e)) (fun i hi=>by
  obtain⟨a,ah⟩:=c0 hi;rw[abW (eR x) ah];exact abV xs _ x al i (Kn _ xs i) a ah) (anG ⟨dG,aa⟩)
 rw[k3]at l;exact l
theorem Sl(kind:Int)(xs:List Cell)(x:Cell)(al:xs.length<=8388608):av 269 [.one (I kind),.one (.J 4 (xs.map Cell.e)),.agg x.e] [.one (.J 4 (((c4 kind xs x).1).map Cell.e)),.one (B ((c4 kind xs x).2))]:=by
 have bT:=q2 (fun a=>!eR x a) xs;rcases cI (kind==6) with h1 | h1
 ·skip
  have c2:=QV xs x (by omega);rcases cI (nS xs x) with aw | aw
  ·skip
   rw[show c4 kind xs x=(xs,false) from by grind[c4,iS]];exact an9 ⟨(by first | omega | (simp only[bk,bW];omega) | exact cf _ Cell.flat _ | grind[ay]),(by first | omega | (simp only[bk,bW];omega) | exact cf _ Cell.flat _ | grind[ay]),(by first | omega | (simp only[bk,bW];omega) | exact cf _ Cell.flat _ | grind[ay]),h1,c2,aw,aa⟩
  skip
  have ed:=Al xs x (by omega);rw[show c4 kind xs x=((j4 xs x),true) from by grind[c4,iS]];exact aoa ⟨(by first | omega | (simp only[bk,bW];omega) | exact cf _ Cell.flat _ | grind[ay]),(by first | omega | (simp only[bk,bW];omega) | exact cf _ Cell.flat _ | grind[ay]),(by first | omega | (simp only[bk,bW];omega) | exact cf _ Cell.flat _ | grind[ay]),h1,c2,aw,ed,aa⟩
 skip
 rcases cI (kind==5) with aU | aU
 ·skip
  have gX:=Rb xs x.op x.bc x.key (by omega);rcases cI ((pU xs x.op x.bc x.key).2) with bP | bP
  ·skip
   rcases cI (decide (((pU xs x.op x.bc x.key).1)<=x.val)) with c' | c'
   ·skip
    rw[show c4 kind xs x=(xs,false) from by grind[c4,iS]];exact aob ⟨(by first | omega | (simp only[bk,bW];omega) | exact cf _ Cell.flat _ | grind[ay]),(by first | omega | (simp only[bk,bW];omega) | exact cf _ Cell.flat _ | grind[ay]),(by first | omega | (simp only[bk,bW];omega) | exact cf _ Cell.flat _ | grind[ay]),h1,aU,aU,gX,bP,c',aa⟩
   skip
   
   have V9:=Al (xs.filter fun a=>!eR x a) x (by omega);rw[show c4 kind xs x=((j4 (xs.filter fun a=>!eR x a) x),true) from by grind[c4,iS]];exact anH ⟨(by first | omega | (simp only[bk,bW];omega) | exact cf _ Cell.flat _ | grind[ay]),(by first | omega | (simp only[bk,bW];omega) | exact cf _ Cell.flat _ | grind[ay]),(by first | omega | (simp only[bk,bW];omega) | exact cf _ Cell.flat _ | grind[ay]),h1,aU,aU,gX,bP,c',(DY xs x al),V9,aa⟩
  skip
  
  have wh:=Al (xs.filter fun a=>!eR x a) x (by omega);rw[show c4 kind xs x=((j4 (xs.filter fun a=>!eR x a) x),true) from by grind[c4,iS]];exact anI ⟨(by first | omega | (simp only[bk,bW];omega) | exact cf _ Cell.flat _ | grind[ay]),(by first | omega | (simp only[bk,bW];omega) | exact cf _ Cell.flat _ | grind[ay]),(by first | omega | (simp only[bk,bW];omega) | exact cf _ Cell.flat _ | grind[ay]),h1,aU,aU,gX,bP,(DY xs x al),wh,aa⟩
 skip
 rcases cI (kind==8) with hL | hL
 ·skip
  have nc:=Rb xs x.op x.bc x.key (by omega);rcases cI ((pU xs x.op x.bc x.key).2) with sM | sM
  ·skip
   rcases cI (decide (((pU xs x.op x.bc x.key).1)<=x.val)) with kK | kK
   ·skip
    rw[show c4 kind xs x=(xs,false) from by grind[c4,iS]];exact anJ ⟨(by first | omega | (simp only[bk,bW];omega) | exact cf _ Cell.flat _ | grind[ay]),(by first | omega | (simp only[bk,bW];omega) | exact cf _ Cell.flat _ | grind[ay]),(by first | omega | (simp only[bk,bW];omega) | exact cf _ Cell.flat _ | grind[ay]),h1,aU,hL,nc,sM,kK,aa⟩
   skip
   
   have V7:=Al (xs.filter fun a=>!eR x a) x (by omega);rw[show c4 kind xs x=((j4 (xs.filter fun a=>!eR x a) x),true) from by grind[c4,iS]];exact anK ⟨(by first | omega | (simp only[bk,bW];omega) | exact cf _ Cell.flat _ | grind[ay]),(by first | omega | (simp only[bk,bW];omega) | exact cf _ Cell.flat _ | grind[ay]),(by first | omega | (simp only[bk,bW];omega) | exact cf _ Cell.flat _ | grind[ay]),h1,aU,hL,nc,sM,kK,(DY xs x al),V7,aa⟩
  skip
  
  have BO:=Al (xs.filter fun a=>!eR x a) x (by omega);rw[show c4 kind xs x=((j4 (xs.filter fun a=>!eR x a) x),true) from by grind[c4,iS]];exact anL ⟨(by first | omega | (simp only[bk,bW];omega) | exact cf _ Cell.flat _ | grind[ay]),(by first | omega | (simp only[bk,bW];omega) | exact cf _ Cell.flat _ | grind[ay]),(by first | omega | (simp only[bk,bW];omega) | exact cf _ Cell.flat _ | grind[ay]),h1,aU,hL,nc,sM,(DY xs x al),BO,aa⟩
 skip
 rw[show c4 kind xs x=(xs,true) from by grind[c4,iS]];exact apc ⟨(by first | omega | (simp only[bk,bW];omega) | exact cf _ Cell.flat _ | grind[ay]),(by first | omega | (simp only[bk,bW];omega) | exact cf _ Cell.flat _ | grind[ay]),(by first | omega | (simp only[bk,bW];omega) | exact cf _ Cell.flat _ | grind[ay]),h1,aU,hL,aa⟩
theorem Sm(kind:Int)(xs:List Cell)(x:Cell)(al:xs.length<=8388608):av 299 [.one (I kind),.one (.J 4 (xs.map Cell.e)),.agg x.e] [.one (.J 4 (((c4 kind xs x).1).map Cell.e)),.one (B ((c4 kind xs x).2))]:=by
 rcases cI (kind==5) with h1 | h1
 ·skip
  have c2:=Sk xs x (by omega);rw[show c4 kind xs x=(((iS xs x).1),(iS xs x).2) from by grind[c4,iS,j4]];exact aot ⟨h1,h1,c2,aa⟩
 skip
 rcases cI (kind==8) with aw | aw
 ·skip
  have ed:=Sk xs x (by omega);rw[show c4 kind xs x=(((iS xs x).1),(iS xs x).2) from by grind[c4,iS,j4]];exact aou ⟨h1,aw,ed,aa⟩
 skip
 rcases cI (kind==6) with aU | aU
 ·skip
  have gX:=QZ xs x (by omega);have Fs:=QX xs x (by omega);rw[show c4 kind xs x=((j4 xs x),!(nS xs x)) from by grind[c4,iS,j4]];exact aov ⟨h1,aw,aU,gX,Fs,aa⟩
 skip
 have lI:=tB xs (by omega);rw[show c4 kind xs x=(xs,true) from by grind[c4,iS,j4]];exact aow ⟨h1,aw,aU,lI,aa⟩
def hW(x:Node)(s:gB)(key val:Int):List aG:=x.outs.map fun k=>⟨k,s,key,val⟩
def cellOf(r:aG):Cell:=⟨r.op,r.bw.bc,r.key,r.val⟩
def dH(g:bX)(cs:List Cell)(r:aG)(x:Node):List Cell×List aG×Bool:=
 if eg g&&e4 r then
  if !(cP x r.key r.val).2.2&&x.kind != 8 then (cs,[],true)
  else if !(c4 x.kind cs ⟨r.op,r.bw.bc,r.key,r.val⟩).2 then ((c4 x.kind cs ⟨r.op,r.bw.bc,r.key,r.val⟩).1,[],true)
  else if x.kind=7 then
   ((c4 x.kind cs ⟨r.op,r.bw.bc,r.key,r.val⟩).1,(bif (eM r.bw).2 then hW x (eM r.bw).1 (cP x r.key r.val).1 (cP x r.key r.val).2.1 else []),true)
  else ((c4 x.kind cs ⟨r.op,r.bw.bc,r.key,r.val⟩).1,hW x r.bw (cP x r.key r.val).1 (cP x r.key r.val).2.1,true)
 else (cs,[],false)
theorem xF(x:Node)(s:gB)(key val:Int){i:Nat}{k:Int}(h:x.outs[i]?=some k):(((x.outs.take (i+1)).map fun k=>(⟨k,s,key,val⟩:aG)).map aG.e)=(((x.outs.take i).map fun k=>(⟨k,s,key,val⟩:aG)).map aG.e)++[(⟨k,s,key,val⟩:aG).e]:=by
 simp[vW,h]
theorem Sn(x:Node)(ag:x.outs.length<=8388608)(s:gB)(key val:Int)(iv:List (List D)):c3 prog (aq f176 0) (vj x.kind x.a x.b (x.outs.map a') key val iv s.bc s.ec 0 []) (.exit 0) (s8 iv ((hW x s key val).map aG.e)):=by
 have l:=eY (P:=prog) (c:=(aq f176 0)) (cM 0) x.outs.length (fun i:Nat=>vj x.kind x.a x.b (x.outs.map a') key val iv s.bc s.ec i (((x.outs.take i).map fun k=>(⟨k,s,key,val⟩:aG)).map aG.e)) (fun i hi=>by
  obtain⟨k,hk⟩:=c0 hi;rw[xF x s key val hk];exact acK ⟨b' hi,bF,bI hi,bG a' hk,by simp;omega,by simp;omega,dL (aG.flat ⟨k,s,key,val⟩),df hi ag,aa⟩) (acL ⟨dG,aa⟩)
 rw[k3]at l;exact l
theorem Sp(x:Node)(ag:x.outs.length<=8388608)(s:gB)(key val:Int)(iv:List (List D)):c3 prog (aq f176 0) (vk s.bc s.ec x.kind x.a x.b (x.outs.map a') key val iv 0 []) (.exit 0) (s8 iv ((hW x s key val).map aG.e)):=by
 have l:=eY (P:=prog) (c:=(aq f176 0)) (cM 0) x.outs.length (fun i:Nat=>vk s.bc s.ec x.kind x.a x.b (x.outs.map a') key val iv i (((x.outs.take i).map fun k=>(⟨k,s,key,val⟩:aG)).map aG.e)) (fun i hi=>by
  obtain⟨k,hk⟩:=c0 hi;rw[xF x s key val hk];exact acN ⟨b' hi,bF,bI hi,bG a' hk,by simp;omega,by simp;omega,dL (aG.flat ⟨k,s,key,val⟩),df hi ag,aa⟩) (acO ⟨dG,aa⟩)
 rw[k3]at l;exact l
theorem Sq(x:Node)(ag:x.outs.length<=8388608)(s:gB)(key val:Int)(iv:List (List D)):c3 prog (aq f176 0) (vl iv x.kind x.a x.b (x.outs.map a') key val s.bc s.ec 0 []) (.exit 0) (s9 iv ((hW x s key val).map aG.e)):=by
 have l:=eY (P:=prog) (c:=(aq f176 0)) (cM 0) x.outs.length (fun i:Nat=>vl iv x.kind x.a x.b (x.outs.map a') key val s.bc s.ec i (((x.outs.take i).map fun k=>(⟨k,s,key,val⟩:aG)).map aG.e)) (fun i hi=>by
  obtain⟨k,hk⟩:=c0 hi;rw[xF x s key val hk];exact acR ⟨b' hi,bF,bI hi,bG a' hk,by simp;omega,by simp;omega,dL (aG.flat ⟨k,s,key,val⟩),df hi ag,aa⟩) (acS ⟨dG,aa⟩)
 rw[k3]at l;exact l
theorem Sr(x:Node)(ag:x.outs.length<=8388608)(s:gB)(key val:Int)(iv:List (List D)):c3 prog (aq f176 0) (vm iv s.bc s.ec x.kind x.a x.b (x.outs.map a') key val 0 []) (.exit 0) (s9 iv ((hW x s key val).map aG.e)):=by
 have l:=eY (P:=prog) (c:=(aq f176 0)) (cM 0) x.outs.length (fun i:Nat=>vm iv s.bc s.ec x.kind x.a x.b (x.outs.map a') key val i (((x.outs.take i).map fun k=>(⟨k,s,key,val⟩:aG)).map aG.e)) (fun i hi=>by
  obtain⟨k,hk⟩:=c0 hi;rw[xF x s key val hk];exact acU ⟨b' hi,bF,bI hi,bG a' hk,by simp;omega,by simp;omega,dL (aG.flat ⟨k,s,key,val⟩),df hi ag,aa⟩) (acV ⟨dG,aa⟩)
 rw[k3]at l;exact l
theorem Ss(x:Node)(ag:x.outs.length<=8388608)(s:gB)(key val:Int)(iv:List (List D)):c3 prog (aq f232 0) (vn s.bc s.ec (x.outs.map a') key val iv 0 []) (.exit 0) (s' iv ((hW x s key val).map aG.e)):=by
 have l:=eY (P:=prog) (c:=(aq f232 0)) (cM 0) x.outs.length (fun i:Nat=>vn s.bc s.ec (x.outs.map a') key val iv i (((x.outs.take i).map fun k=>(⟨k,s,key,val⟩:aG)).map aG.e)) (fun i hi=>by
  obtain⟨k,hk⟩:=c0 hi;rw[xF x s key val hk];exact aci ⟨b' hi,bF,bI hi,bG a' hk,rfl,by simp;omega,by simp;omega,dL (aG.flat ⟨k,s,key,val⟩),df hi ag,aa⟩) (acj ⟨dG,aa⟩)
 rw[k3]at l;exact l
theorem St(x:Node)(ag:x.outs.length<=8388608)(b:Bool)(s:gB)(key val:Int)(iv:List (List D)):c3 prog (aq f232 0) (qG (x.outs.map a') key val iv s.bc s.ec b 0 []) (.exit 0) (s' iv ((bif b then hW x s key val else []).map aG.e)):=by
 cases b with
 | true=>
  have l:=eY (P:=prog) (c:=(aq f232 0)) (cM 0) x.outs.length (fun i:Nat=>qG (x.outs.map a') key val iv s.bc s.ec true i (((x.outs.take i).map fun k=>(⟨k,s,key,val⟩:aG)).map aG.e)) (fun i hi=>by
   obtain⟨k,hk⟩:=c0 hi;rw[xF x s key val hk];exact acf ⟨b' hi,bF,bI hi,bG a' hk,rfl,by simp;omega,by simp;omega,dL (aG.flat ⟨k,s,key,val⟩),df hi ag,aa⟩) (Si ⟨dG,aa⟩)
  rw[k3]at l;exact l
 | false=>
  exact eY (P:=prog) (c:=(aq f232 0)) (cM 0) x.outs.length (fun i:Nat=>qG (x.outs.map a') key val iv s.bc s.ec false i []) (fun i hi=>by
   obtain⟨k,hk⟩:=c0 hi;exact acg ⟨b' hi,bF,bI hi,bG a' hk,rfl,df hi ag,aa⟩) (Si ⟨dG,aa⟩)
theorem abX(g:bX)(cs:List Cell)(r:aG)(x:Node)(au:g.sz<=8388608)(al:cs.length<=8388608)(aW:fW g r.op=some x):av 176 [.agg g.e,.one (.J 4 (cs.map Cell.e)),.agg r.e] [.one (.J 4 ((dH g cs r x).1.map Cell.e)),.one (.J 5 ((dH g cs r x).2.1.map aG.e)),.one (B (dH g cs r x).2.2)]:=by
 have ag:=bX.zk au (Ks aW);obtain⟨lc,pk,_,_⟩:=Dn aW;have dh:g.nodes[r.op.toNat]?=some x:=by have:=aW;unfold fW at this;rwa[br lc]at this
 have c1:=Dq g r.op (x,true) (by unfold tC;rw[aW]) au;have c2:=xB g au;rcases cI (eg g) with aw | aw
 ·skip
  have ed:=r9 r;rcases cI (e4 r) with aU | aU
  ·skip
   have gX:=ZB x r.key r.val ag;rcases cI ((cP x r.key r.val).2.2) with bP | bP
   ·skip
    have lI:=Sj x.kind;rcases cI (fR x.kind) with dS | dS
    ·skip
     have wh:=Sl x.kind cs (⟨r.op,r.bw.bc,r.key,r.val⟩:Cell) (by omega);rcases cI ((c4 x.kind cs (⟨r.op,r.bw.bc,r.key,r.val⟩:Cell)).2) with hL | hL
     ·skip
      rcases cI (x.kind==7) with h4 | h4
      ·skip
       have mc:=xA r.bw;rcases cI ((eM r.bw).2) with kK | kK
       ·skip
        
        rw[show dH g cs r x=(((c4 x.kind cs (⟨r.op,r.bw.bc,r.key,r.val⟩:Cell)).1),(hW x ((eM r.bw).1) ((cP x r.key r.val).1) ((cP x r.key r.val).2.1)),true) from by grind[dH,fR,c4]];exact ab6 ⟨(by first | omega | (simp only[bk,bW];omega) | exact cf _ Cell.flat _ | grind[ay]),(by first | omega | (simp only[bk,bW];omega) | exact cf _ Cell.flat _ | grind[ay]),(by first | omega | (simp only[bk,bW];omega) | exact cf _ Cell.flat _ | grind[ay]),c1,rfl,c2,(by rw[aw];rfl),ed,(by rw[aU];rfl),gX,(by rw[bP];rfl),lI,dS,wh,(by rw[hL];rfl),h4,mc,(by rw[kK];rfl),(Sn x ag ((eM r.bw).1) ((cP x r.key r.val).1) ((cP x r.key r.val).2.1) _),aa⟩
       skip
       rw[show dH g cs r x=(((c4 x.kind cs (⟨r.op,r.bw.bc,r.key,r.val⟩:Cell)).1),([]:List aG),true) from by grind[dH,fR,c4]];exact ab5 ⟨(by first | omega | (simp only[bk,bW];omega) | exact cf _ Cell.flat _ | grind[ay]),(by first | omega | (simp only[bk,bW];omega) | exact cf _ Cell.flat _ | grind[ay]),(by first | omega | (simp only[bk,bW];omega) | exact cf _ Cell.flat _ | grind[ay]),c1,rfl,c2,(by rw[aw];rfl),ed,(by rw[aU];rfl),gX,(by rw[bP];rfl),lI,dS,wh,(by rw[hL];rfl),h4,mc,(by rw[kK];rfl),aa⟩
      skip
      
      rw[show dH g cs r x=(((c4 x.kind cs (⟨r.op,r.bw.bc,r.key,r.val⟩:Cell)).1),(hW x r.bw ((cP x r.key r.val).1) ((cP x r.key r.val).2.1)),true) from by grind[dH,fR,c4]];exact ab7 ⟨(by first | omega | (simp only[bk,bW];omega) | exact cf _ Cell.flat _ | grind[ay]),(by first | omega | (simp only[bk,bW];omega) | exact cf _ Cell.flat _ | grind[ay]),(by first | omega | (simp only[bk,bW];omega) | exact cf _ Cell.flat _ | grind[ay]),c1,rfl,c2,(by rw[aw];rfl),ed,(by rw[aU];rfl),gX,(by rw[bP];rfl),lI,dS,wh,(by rw[hL];rfl),h4,(Sp x ag r.bw ((cP x r.key r.val).1) ((cP x r.key r.val).2.1) _),aa⟩
     skip
     rw[show dH g cs r x=(((c4 x.kind cs (⟨r.op,r.bw.bc,r.key,r.val⟩:Cell)).1),([]:List aG),true) from by grind[dH,fR,c4]];exact ab4 ⟨(by first | omega | (simp only[bk,bW];omega) | exact cf _ Cell.flat _ | grind[ay]),(by first | omega | (simp only[bk,bW];omega) | exact cf _ Cell.flat _ | grind[ay]),(by first | omega | (simp only[bk,bW];omega) | exact cf _ Cell.flat _ | grind[ay]),c1,rfl,c2,(by rw[aw];rfl),ed,(by rw[aU];rfl),gX,(by rw[bP];rfl),lI,dS,wh,(by rw[hL];rfl),aa⟩
    skip
    rcases cI (x.kind==7) with jb | jb
    ·skip
     have BO:=xA r.bw;rcases cI ((eM r.bw).2) with qd | qd
     ·skip
      
      rw[show dH g cs r x=(cs,(hW x ((eM r.bw).1) ((cP x r.key r.val).1) ((cP x r.key r.val).2.1)),true) from by grind[dH,fR,c4]];exact ab9 ⟨(by first | omega | (simp only[bk,bW];omega) | exact cf _ Cell.flat _ | grind[ay]),(by first | omega | (simp only[bk,bW];omega) | exact cf _ Cell.flat _ | grind[ay]),(by first | omega | (simp only[bk,bW];omega) | exact cf _ Cell.flat _ | grind[ay]),c1,rfl,c2,(by rw[aw];rfl),ed,(by rw[aU];rfl),gX,(by rw[bP];rfl),lI,dS,jb,BO,(by rw[qd];rfl),(Sq x ag ((eM r.bw).1) ((cP x r.key r.val).1) ((cP x r.key r.val).2.1) _),aa⟩
     skip
     rw[show dH g cs r x=(cs,([]:List aG),true) from by grind[dH,fR,c4]];exact ab8 ⟨(by first | omega | (simp only[bk,bW];omega) | exact cf _ Cell.flat _ | grind[ay]),(by first | omega | (simp only[bk,bW];omega) | exact cf _ Cell.flat _ | grind[ay]),(by first | omega | (simp only[bk,bW];omega) | exact cf _ Cell.flat _ | grind[ay]),c1,rfl,c2,(by rw[aw];rfl),ed,(by rw[aU];rfl),gX,(by rw[bP];rfl),lI,dS,jb,BO,(by rw[qd];rfl),aa⟩
    skip
    
    rw[show dH g cs r x=(cs,(hW x r.bw ((cP x r.key r.val).1) ((cP x r.key r.val).2.1)),true) from by grind[dH,fR,c4]];exact aca ⟨(by first | omega | (simp only[bk,bW];omega) | exact cf _ Cell.flat _ | grind[ay]),(by first | omega | (simp only[bk,bW];omega) | exact cf _ Cell.flat _ | grind[ay]),(by first | omega | (simp only[bk,bW];omega) | exact cf _ Cell.flat _ | grind[ay]),c1,rfl,c2,(by rw[aw];rfl),ed,(by rw[aU];rfl),gX,(by rw[bP];rfl),lI,dS,jb,(Sr x ag r.bw ((cP x r.key r.val).1) ((cP x r.key r.val).2.1) _),aa⟩
   skip
   rcases cI (x.kind != 8) with gK | gK
   ·skip
    rw[show dH g cs r x=(cs,([]:List aG),true) from by grind[dH,fR,c4]];exact acH ⟨(by first | omega | (simp only[bk,bW];omega) | exact cf _ Cell.flat _ | grind[ay]),(by first | omega | (simp only[bk,bW];omega) | exact cf _ Cell.flat _ | grind[ay]),(by first | omega | (simp only[bk,bW];omega) | exact cf _ Cell.flat _ | grind[ay]),c1,rfl,c2,(by rw[aw];rfl),ed,(by rw[aU];rfl),gX,(by rw[bP];rfl),gK,aa⟩
   skip
   have iG:=Sj x.kind;rcases cI (fR x.kind) with eU | eU
   ·skip
    have me:=Sl x.kind cs (⟨r.op,r.bw.bc,r.key,r.val⟩:Cell) (by omega);rcases cI ((c4 x.kind cs (⟨r.op,r.bw.bc,r.key,r.val⟩:Cell)).2) with kL | kL
    ·skip
     rcases cI (x.kind==7) with jB | jB
     ·skip
      have MT:=xA r.bw;rcases cI ((eM r.bw).2) with o8 | o8
      ·skip
       
       rw[show dH g cs r x=(((c4 x.kind cs (⟨r.op,r.bw.bc,r.key,r.val⟩:Cell)).1),(hW x ((eM r.bw).1) ((cP x r.key r.val).1) ((cP x r.key r.val).2.1)),true) from by grind[dH,fR,c4]];exact acM ⟨(by first | omega | (simp only[bk,bW];omega) | exact cf _ Cell.flat _ | grind[ay]),(by first | omega | (simp only[bk,bW];omega) | exact cf _ Cell.flat _ | grind[ay]),(by first | omega | (simp only[bk,bW];omega) | exact cf _ Cell.flat _ | grind[ay]),c1,rfl,c2,(by rw[aw];rfl),ed,(by rw[aU];rfl),gX,(by rw[bP];rfl),gK,iG,eU,me,(by rw[kL];rfl),jB,MT,(by rw[o8];rfl),(Sn x ag ((eM r.bw).1) ((cP x r.key r.val).1) ((cP x r.key r.val).2.1) _),aa⟩
      skip
      rw[show dH g cs r x=(((c4 x.kind cs (⟨r.op,r.bw.bc,r.key,r.val⟩:Cell)).1),([]:List aG),true) from by grind[dH,fR,c4]];exact acJ ⟨(by first | omega | (simp only[bk,bW];omega) | exact cf _ Cell.flat _ | grind[ay]),(by first | omega | (simp only[bk,bW];omega) | exact cf _ Cell.flat _ | grind[ay]),(by first | omega | (simp only[bk,bW];omega) | exact cf _ Cell.flat _ | grind[ay]),c1,rfl,c2,(by rw[aw];rfl),ed,(by rw[aU];rfl),gX,(by rw[bP];rfl),gK,iG,eU,me,(by rw[kL];rfl),jB,MT,(by rw[o8];rfl),aa⟩
     skip
     
     rw[show dH g cs r x=(((c4 x.kind cs (⟨r.op,r.bw.bc,r.key,r.val⟩:Cell)).1),(hW x r.bw ((cP x r.key r.val).1) ((cP x r.key r.val).2.1)),true) from by grind[dH,fR,c4]];exact acP ⟨(by first | omega | (simp only[bk,bW];omega) | exact cf _ Cell.flat _ | grind[ay]),(by first | omega | (simp only[bk,bW];omega) | exact cf _ Cell.flat _ | grind[ay]),(by first | omega | (simp only[bk,bW];omega) | exact cf _ Cell.flat _ | grind[ay]),c1,rfl,c2,(by rw[aw];rfl),ed,(by rw[aU];rfl),gX,(by rw[bP];rfl),gK,iG,eU,me,(by rw[kL];rfl),jB,(Sp x ag r.bw ((cP x r.key r.val).1) ((cP x r.key r.val).2.1) _),aa⟩
    skip
    rw[show dH g cs r x=(((c4 x.kind cs (⟨r.op,r.bw.bc,r.key,r.val⟩:Cell)).1),([]:List aG),true) from by grind[dH,fR,c4]];exact acI ⟨(by first | omega | (simp only[bk,bW];omega) | exact cf _ Cell.flat _ | grind[ay]),(by first | omega | (simp only[bk,bW];omega) | exact cf _ Cell.flat _ | grind[ay]),(by first | omega | (simp only[bk,bW];omega) | exact cf _ Cell.flat _ | grind[ay]),c1,rfl,c2,(by rw[aw];rfl),ed,(by rw[aU];rfl),gX,(by rw[bP];rfl),gK,iG,eU,me,(by rw[kL];rfl),aa⟩
   skip
   rcases cI (x.kind==7) with o9 | o9
   ·skip
    have MU:=xA r.bw;rcases cI ((eM r.bw).2) with nh | nh
    ·skip
     
     rw[show dH g cs r x=(cs,(hW x ((eM r.bw).1) ((cP x r.key r.val).1) ((cP x r.key r.val).2.1)),true) from by grind[dH,fR,c4]];exact acT ⟨(by first | omega | (simp only[bk,bW];omega) | exact cf _ Cell.flat _ | grind[ay]),(by first | omega | (simp only[bk,bW];omega) | exact cf _ Cell.flat _ | grind[ay]),(by first | omega | (simp only[bk,bW];omega) | exact cf _ Cell.flat _ | grind[ay]),c1,rfl,c2,(by rw[aw];rfl),ed,(by rw[aU];rfl),gX,(by rw[bP];rfl),gK,iG,eU,o9,MU,(by rw[nh];rfl),(Sq x ag ((eM r.bw).1) ((cP x r.key r.val).1) ((cP x r.key r.val).2.1) _),aa⟩
    skip
    rw[show dH g cs r x=(cs,([]:List aG),true) from by grind[dH,fR,c4]];exact acQ ⟨(by first | omega | (simp only[bk,bW];omega) | exact cf _ Cell.flat _ | grind[ay]),(by first | omega | (simp only[bk,bW];omega) | exact cf _ Cell.flat _ | grind[ay]),(by first | omega | (simp only[bk,bW];omega) | exact cf _ Cell.flat _ | grind[ay]),c1,rfl,c2,(by rw[aw];rfl),ed,(by rw[aU];rfl),gX,(by rw[bP];rfl),gK,iG,eU,o9,MU,(by rw[nh];rfl),aa⟩
   skip
   
   rw[show dH g cs r x=(cs,(hW x r.bw ((cP x r.key r.val).1) ((cP x r.key r.val).2.1)),true) from by grind[dH,fR,c4]];exact acW ⟨(by first | omega | (simp only[bk,bW];omega) | exact cf _ Cell.flat _ | grind[ay]),(by first | omega | (simp only[bk,bW];omega) | exact cf _ Cell.flat _ | grind[ay]),(by first | omega | (simp only[bk,bW];omega) | exact cf _ Cell.flat _ | grind[ay]),c1,rfl,c2,(by rw[aw];rfl),ed,(by rw[aU];rfl),gX,(by rw[bP];rfl),gK,iG,eU,o9,(Sr x ag r.bw ((cP x r.key r.val).1) ((cP x r.key r.val).2.1) _),aa⟩
  skip
  rw[show dH g cs r x=(cs,([]:List aG),false) from by grind[dH,fR,c4]];exact acG ⟨(by first | omega | (simp only[bk,bW];omega) | exact cf _ Cell.flat _ | grind[ay]),(by first | omega | (simp only[bk,bW];omega) | exact cf _ Cell.flat _ | grind[ay]),(by first | omega | (simp only[bk,bW];omega) | exact cf _ Cell.flat _ | grind[ay]),c1,rfl,c2,(by rw[aw];rfl),ed,(by rw[aU];rfl),aa⟩
 skip
 rw[show dH g cs r x=(cs,([]:List aG),false) from by grind[dH,fR,c4]];exact acF ⟨(by first | omega | (simp only[bk,bW];omega) | exact cf _ Cell.flat _ | grind[ay]),(by first | omega | (simp only[bk,bW];omega) | exact cf _ Cell.flat _ | grind[ay]),(by first | omega | (simp only[bk,bW];omega) | exact cf _ Cell.flat _ | grind[ay]),c1,rfl,c2,(by rw[aw];rfl),aa⟩
theorem abY(g:bX)(cs:List Cell)(r:aG)(x:Node)(au:g.sz<=8388608)(al:cs.length<=8388608)(aW:fW g r.op=some x):av 232 [.agg g.e,.one (.J 4 (cs.map Cell.e)),.agg r.e] [.one (.J 4 ((dH g cs r x).1.map Cell.e)),.one (.J 5 ((dH g cs r x).2.1.map aG.e)),.one (B (dH g cs r x).2.2)]:=by
 have ag:=bX.zk au (Ks aW);obtain⟨lc,pk,_,_⟩:=Dn aW;have dh:g.nodes[r.op.toNat]?=some x:=by have:=aW;unfold fW at this;rwa[br lc]at this
 have c1:=xC g au;rcases cI (eg g) with U | U
 ·skip
  have cA:=vd r;rcases cI (e4 r) with aH | aH
  ·skip
   have ga:=xz g r.op true (by rw[aW];rfl) au;have gX:=ZC x r.key r.val ag;rcases cI ((cP x r.key r.val).2.2) with bP | bP
   ·skip
    have lI:=Sm x.kind cs (⟨r.op,r.bw.bc,r.key,r.val⟩:Cell) (by omega);rcases cI ((c4 x.kind cs (⟨r.op,r.bw.bc,r.key,r.val⟩:Cell)).2) with dS | dS
    ·skip
     rcases cI (x.kind==7) with dF | dF
     ·skip
      have o2:=Kz r.bw
      
      rw[show dH g cs r x=(((c4 x.kind cs (⟨r.op,r.bw.bc,r.key,r.val⟩:Cell)).1),(bif (eM r.bw).2 then hW x ((eM r.bw).1) ((cP x r.key r.val).1) ((cP x r.key r.val).2.1) else []),true) from by grind[dH,fR,c4]];exact acn ⟨c1,(by rw[U];rfl),cA,(by rw[aH];rfl),ga,rfl,(by first | omega | (simp only[bk,bW];omega) | exact cf _ Cell.flat _ | grind[ay]),(by first | omega | (simp only[bk,bW];omega) | exact cf _ Cell.flat _ | grind[ay]),(bH Node.e dh),gX,(by rw[bP];rfl),lI,(by rw[dS];rfl),dF,o2,(St x ag ((eM r.bw).2) ((eM r.bw).1) ((cP x r.key r.val).1) ((cP x r.key r.val).2.1) _),aa⟩
     skip
     
     rw[show dH g cs r x=(((c4 x.kind cs (⟨r.op,r.bw.bc,r.key,r.val⟩:Cell)).1),(hW x r.bw ((cP x r.key r.val).1) ((cP x r.key r.val).2.1)),true) from by grind[dH,fR,c4]];exact aco ⟨c1,(by rw[U];rfl),cA,(by rw[aH];rfl),ga,rfl,(by first | omega | (simp only[bk,bW];omega) | exact cf _ Cell.flat _ | grind[ay]),(by first | omega | (simp only[bk,bW];omega) | exact cf _ Cell.flat _ | grind[ay]),(bH Node.e dh),gX,(by rw[bP];rfl),lI,(by rw[dS];rfl),dF,(Ss x ag r.bw ((cP x r.key r.val).1) ((cP x r.key r.val).2.1) _),aa⟩
    skip
    rw[show dH g cs r x=(((c4 x.kind cs (⟨r.op,r.bw.bc,r.key,r.val⟩:Cell)).1),([]:List aG),true) from by grind[dH,fR,c4]];exact acm ⟨c1,(by rw[U];rfl),cA,(by rw[aH];rfl),ga,rfl,(by first | omega | (simp only[bk,bW];omega) | exact cf _ Cell.flat _ | grind[ay]),(by first | omega | (simp only[bk,bW];omega) | exact cf _ Cell.flat _ | grind[ay]),(bH Node.e dh),gX,(by rw[bP];rfl),lI,(by rw[dS];rfl),aa⟩
   skip
   rcases cI (x.kind != 8) with h4 | h4
   ·skip
    have mc:=tB cs (by omega);rw[show dH g cs r x=(cs,([]:List aG),true) from by grind[dH,fR,c4]];exact acd ⟨c1,(by rw[U];rfl),cA,(by rw[aH];rfl),ga,rfl,(by first | omega | (simp only[bk,bW];omega) | exact cf _ Cell.flat _ | grind[ay]),(by first | omega | (simp only[bk,bW];omega) | exact cf _ Cell.flat _ | grind[ay]),(bH Node.e dh),gX,(by rw[bP];rfl),h4,mc,aa⟩
   skip
   have Fq:=Sm x.kind cs (⟨r.op,r.bw.bc,r.key,r.val⟩:Cell) (by omega);rcases cI ((c4 x.kind cs (⟨r.op,r.bw.bc,r.key,r.val⟩:Cell)).2) with jb | jb
   ·skip
    rcases cI (x.kind==7) with cu | cu
    ·skip
     have k9:=Kz r.bw
     
     rw[show dH g cs r x=(((c4 x.kind cs (⟨r.op,r.bw.bc,r.key,r.val⟩:Cell)).1),(bif (eM r.bw).2 then hW x ((eM r.bw).1) ((cP x r.key r.val).1) ((cP x r.key r.val).2.1) else []),true) from by grind[dH,fR,c4]];exact ach ⟨c1,(by rw[U];rfl),cA,(by rw[aH];rfl),ga,rfl,(by first | omega | (simp only[bk,bW];omega) | exact cf _ Cell.flat _ | grind[ay]),(by first | omega | (simp only[bk,bW];omega) | exact cf _ Cell.flat _ | grind[ay]),(bH Node.e dh),gX,(by rw[bP];rfl),h4,Fq,(by rw[jb];rfl),cu,k9,(St x ag ((eM r.bw).2) ((eM r.bw).1) ((cP x r.key r.val).1) ((cP x r.key r.val).2.1) _),aa⟩
    skip
    
    rw[show dH g cs r x=(((c4 x.kind cs (⟨r.op,r.bw.bc,r.key,r.val⟩:Cell)).1),(hW x r.bw ((cP x r.key r.val).1) ((cP x r.key r.val).2.1)),true) from by grind[dH,fR,c4]];exact ack ⟨c1,(by rw[U];rfl),cA,(by rw[aH];rfl),ga,rfl,(by first | omega | (simp only[bk,bW];omega) | exact cf _ Cell.flat _ | grind[ay]),(by first | omega | (simp only[bk,bW];omega) | exact cf _ Cell.flat _ | grind[ay]),(bH Node.e dh),gX,(by rw[bP];rfl),h4,Fq,(by rw[jb];rfl),cu,(Ss x ag r.bw ((cP x r.key r.val).1) ((cP x r.key r.val).2.1) _),aa⟩
   skip
   rw[show dH g cs r x=(((c4 x.kind cs (⟨r.op,r.bw.bc,r.key,r.val⟩:Cell)).1),([]:List aG),true) from by grind[dH,fR,c4]];exact ace ⟨c1,(by rw[U];rfl),cA,(by rw[aH];rfl),ga,rfl,(by first | omega | (simp only[bk,bW];omega) | exact cf _ Cell.flat _ | grind[ay]),(by first | omega | (simp only[bk,bW];omega) | exact cf _ Cell.flat _ | grind[ay]),(bH Node.e dh),gX,(by rw[bP];rfl),h4,Fq,(by rw[jb];rfl),aa⟩
  skip
  have V8:=tB cs (by omega);rw[show dH g cs r x=(cs,([]:List aG),false) from by grind[dH,fR,c4]];exact Sh ⟨c1,(by rw[U];rfl),cA,(by rw[aH];rfl),V8,aa⟩
 skip
 have iG:=tB cs (by omega);rw[show dH g cs r x=(cs,([]:List aG),false) from by grind[dH,fR,c4]];exact QR ⟨c1,(by rw[U];rfl),iG,aa⟩
