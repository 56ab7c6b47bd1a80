import Derived.Test.YthfnndblgbjniaaGreatDoorP16
import Derived.Test.YthfnndblgbjniaaGreatDoorGS
import Derived.Test.YthfnndblgbjniaaGreatDoorGU
set_option linter.unusedVariables false
set_option linter.unusedSimpArgs false
namespace Go.Proofs.YthfnndblgbjniaaGreatDoor
open Go.Sx Go.RowKit Go.Proofs.Tryz
theorem afY{P:Program}{f:Nat}{args:List GA}{k:Nat}{l gH:List (List D)}(h:kl P f args [.one (.J k l)])(ar:l=gH):kl P f args [.one (.J k gH)]:=ar▸h
theorem LR(xs:List Cell)(p:Cell->Bool)(g:Nat)(bt:List D)(ar:xs.length<=8388608)(ao:hj prog g=true)(hp:∀x∈xs,∀r,p x=r->al g ([.agg x.e]++bt.map .one) [.one (B r)]):
  ∀(n i:Nat) (ys:List Cell),n+i=xs.length->ys.length=xs.length->ys.drop i=xs.drop i->ys.take ((xs.take i).filter fun a=>!p a).length=(xs.take i).filter (fun a=>!p a)->
  ∃zs:List Cell,c6 prog (ap f226 0) (uw g bt i ((xs.take i).filter fun a=>!p a).length (ys.map Cell.e)) (.exit 0) (JX (zs.map Cell.e) (xs.filter fun a=>!p a).length)/\zs.length=xs.length/\zs.take (xs.filter fun a=>!p a).length=xs.filter (fun a=>!p a)
 | 0,i,ys,hi,bM,_,bZ=>by
  have e:xs.take i=xs:=B8 (by omega);rw[e]at bZ ⊢;exact⟨ys,.last (cy 0) (at6 ⟨dX (by simp;omega),ad⟩),bM,bZ⟩
 | n+1,i,ys,hi,bM,aI,bZ=>by
  obtain⟨a,aj⟩:=c2 (xs:=xs) (i:=i) (by omega);have O2:ys[i]?=some a:=by
   have e1:ys[i]?=(ys.drop i)[0]?:=by simp
   grind
  have b8:=yi (fun a=>!p a) aj;have hle:=E1 (fun a=>!p a) xs i;have CR:ys.drop (i+1)=xs.drop (i+1):=by
   have:=congrArg (List.drop 1) aI;grind[List.drop_drop,Nat.add_comm]
  cases h:p a with
  | true=>
   rw[h]at b8;simp only[ja,nM,lN,iz]at b8;obtain⟨zs,U,aa,aB⟩:=LR xs p g bt ar ao hp n (i+1) ys (by omega) bM CR (by grind);rw[b8]at U;exact⟨zs,.more (at5 ⟨dm (by simp;omega),bB,by simp;omega,bC Cell.e O2,ao,hp a (eQ aj) true h,rfl,⟨by omega,by omega⟩,ad⟩) U,aa,aB⟩
  | false=>
   rw[h]at b8;simp only[nN,gy]at b8;generalize bm:((xs.take i).filter fun a=>!p a).length=j at*;obtain⟨b,ay⟩:=c2 (xs:=ys) (i:=j) (by omega);obtain⟨zs,U,aa,aB⟩:=LR xs p g bt ar ao hp n (i+1) (ys.set j a) (by omega) (by grind) (by grind[List.drop_set_of_lt]) (by
    rw[b8,lL,bm,List.length_singleton,List.take_set,<-bZ];have kM:j<ys.length:=by omega
    simp_all[List.take_succ_eq_append_getElem,List.set_append_right,uT,Nat.min_eq_left,Nat.le_of_lt])
   rw[b8,lL,bm,List.length_singleton]at U;refine⟨zs,.more (wF (fun l=>uw g bt ((i+1:Nat):Int) ((j+1:Nat):Int) l) (at4 ⟨dm (by simp;omega),bB,by simp;omega,bC Cell.e O2,ao,hp a (eQ aj) false h,rfl,bB,by simp;omega,bC Cell.e ay,⟨by omega,by omega⟩,⟨by omega,by omega⟩,ad⟩) ?_) U,aa,aB⟩;show List.set _ _ a.e=_;simp_all
theorem afZ(xs:List Cell)(p:Cell->Bool)(g:Nat)(bt:List D)(ar:xs.length<=8388608)(ao:hj prog g=true)(hp:∀x∈xs,al g ([.agg x.e]++bt.map .one) [.one (B (p x))]):
  kl prog 226 [.one (.e3 4 (xs.map Cell.e) none),.one (.ro (.a8 g bt))] [.one (.J 4 ((xs.filter fun a=>!p a).map Cell.e))]:=by
 have lu:∀x∈xs,∀r,p x=r->al g ([.agg x.e]++bt.map .one) [.one (B r)]:=fun x aq r h=>h▸hp x aq
 have kO:=avf xs p g bt ar ao hp;unfold l0 at kO;cases h:xs.findIdx? p with
 | none=>
  rw[h]at kO;rw[Gf]at h;have e:(xs.filter fun a=>!p a)=xs:=List.filter_eq_self.2 fun a aj=>by simp[h a aj]
  rw[e];exact at3 ⟨kO,rfl,ad⟩
 | some i=>
  rw[h]at kO;change ie _ _ _ [.one (I (i:Int))]at kO;rw[tg]at h;obtain⟨hi,aa,aB⟩:=h;have aq:xs[i]?=some xs[i]:=iB hi;have bz:(xs.take i).filter (fun a=>!p a)=xs.take i:=List.filter_eq_self.2 fun a aj=>by
   grind[List.getElem_of_mem]
  have e1:=yi (fun a=>!p a) aq;rw[aa]at e1;simp only[ja,nM,lN,iz]at e1;rw[bz]at e1;have e2:(xs.take i).length=i:=by grind
  obtain⟨zs,l,bp,bZ⟩:=LR xs p g bt ar ao lu (xs.length-(i+1)) (i+1) xs (by omega) rfl rfl (by rw[e1,e2]);rw[e1,e2]at l;have bO:(xs.filter fun a=>!p a).length<xs.length:=by
   grind[XB,lL,pC,List.length_drop]
  generalize xs.filter (fun a=>!p a)=eG at*;refine afY (at7 ⟨kO,yC.2 (by omega),⟨by omega,by omega⟩,l,by simp,by simp;omega,dE _ Cell.flat _,by simp,by simp,by simp;omega,ad⟩) ?_;simp only[kZ,pA,Nat.sub_zero,wN,<-rV];grind
def ga(k:Int):Bool:=k==5||k==6||k==8
def jw(xs:List Cell)(x:Cell):List Cell×Bool:=
 if (qy xs x.op x.bh x.key).2&&decide ((qy xs x.op x.bh x.key).1<=x.val) then (xs,false) else (kB (xs.filter fun a=>!e6 x a) x,true)
def c8(kind:Int)(xs:List Cell)(x:Cell):List Cell×Bool:=
 if kind=6 then (if oA xs x then (xs,false) else (kB xs x,true))
 else if kind=5\/kind=8 then jw xs x
 else (xs,true)
theorem Sw(k:Int):al 196 [.one (I k)] [.one (B (ga k))]:=by
 rcases cM (k==5) with U | U
 ·skip
  rw[show ga k=true from by grind[ga]];exact atU ⟨U,ad⟩
 skip
 rcases cM (k==6) with aa | aa
 ·skip
  rw[show ga k=true from by grind[ga]];exact atV ⟨U,aa,ad⟩
 skip
 rw[show ga k=(k==8) from by grind[ga]];exact atW ⟨U,aa,ad⟩
theorem Sy(xs:List Cell)(x:Cell)(ar:xs.length<=8388608):al 209 [.one (.J 4 (xs.map Cell.e)),.agg x.e] [.one (.J 4 ((jw xs x).1.map Cell.e)),.one (B (jw xs x).2)]:=by
 have c:=adm xs x.op x.bh x.key ar;have cx:=ux xs ar;have d:=afZ xs (e6 x) 227 [D.ptr x.e] ar (by kernel_rfl) (fun y _=>at2 ⟨Sl x y,ad⟩);have Pq:=R' (xs.filter fun a=>!e6 x a) x (tj (pC ..) ar);unfold jw;generalize qy xs x.op x.bh x.key=m at*;obtain⟨v,f⟩:=m;cases f with
 | false=>exact aui ⟨c,rfl,cx,d,Pq,ad⟩
 | true=>
  by_cases h:v<=x.val
  ·rw[dm h];exact aug ⟨c,rfl,dm h,cx,ad⟩
  rw[dX h];exact auh ⟨c,rfl,dX h,cx,d,Pq,ad⟩
theorem af0(xs acc:List Cell)(x:Cell)(ar:xs.length<=8388608)(i:Nat)(ao:acc.length<=i)(a:Cell)(aj:xs[i]?=some a):gP prog (ap f197 0) (lC (xs.map Cell.e) x.op x.bh x.key x.val i (acc.map Cell.e)) .normal (lC (xs.map Cell.e) x.op x.bh x.key x.val ((i+1:Nat):Int) ((acc++(bif e6 x a then [] else [a])).map Cell.e)):=by
 have bm:=a7 aj;have dz:xs[(i:Int).toNat]?=some a:=by grind
 have ep:decide ((i:Int)<(↑(xs.map Cell.e).length:Int))=true:=cc bm;rcases cM (a.op != x.op) with U | U
 ·skip
  have ak:e6 x a=false:=by grind[e6]
  rw[ak];rw[show (acc++(bif false then [] else [a])).map Cell.e=acc.map Cell.e++[a.e] from by simp];exact atp ⟨ep,(by grind),(by grind),(bN Cell.e dz),U,(by grind),(by grind),(bN Cell.e dz),(by grind),(by grind),(by grind[cr,ic,eh,fA]),(by first | omega | (simp only[cr,ic,eh];omega) | exact fA a.flat | (exact⟨by omega,by omega⟩)),ad⟩
 skip
 rcases cM (a.bh != x.bh) with aa | aa
 ·skip
  have ak:e6 x a=false:=by grind[e6]
  rw[ak];rw[show (acc++(bif false then [] else [a])).map Cell.e=acc.map Cell.e++[a.e] from by simp];exact atq ⟨ep,(by grind),(by grind),(bN Cell.e dz),U,(by grind),(by grind),(bN Cell.e dz),aa,(by grind),(by grind),(bN Cell.e dz),(by grind),(by grind),(by grind[cr,ic,eh,fA]),(by first | omega | (simp only[cr,ic,eh];omega) | exact fA a.flat | (exact⟨by omega,by omega⟩)),ad⟩
 skip
 rcases cM (a.key != x.key) with aB | aB
 ·skip
  have ak:e6 x a=false:=by grind[e6]
  rw[ak];rw[show (acc++(bif false then [] else [a])).map Cell.e=acc.map Cell.e++[a.e] from by simp];exact atr ⟨ep,(by grind),(by grind),(bN Cell.e dz),U,(by grind),(by grind),(bN Cell.e dz),aa,(by grind),(by grind),(bN Cell.e dz),aB,(by grind),(by grind),(bN Cell.e dz),(by grind),(by grind),(by grind[cr,ic,eh,fA]),(by first | omega | (simp only[cr,ic,eh];omega) | exact fA a.flat | (exact⟨by omega,by omega⟩)),ad⟩
 skip
 have ak:e6 x a=true:=by grind[e6]
 rw[ak];rw[show (acc++(bif true then [] else [a])).map Cell.e=acc.map Cell.e from by simp];exact ats ⟨ep,(by grind),(by grind),(bN Cell.e dz),U,(by grind),(by grind),(bN Cell.e dz),aa,(by grind),(by grind),(bN Cell.e dz),aB,(by first | omega | (simp only[cr,ic,eh];omega) | exact fA a.flat | (exact⟨by omega,by omega⟩)),ad⟩
theorem af1(p:Cell->Bool){xs:List Cell}{i:Nat}{a:Cell}(h:xs[i]?=some a):(xs.take (i+1)).filter (fun b=>!p b)=(xs.take i).filter (fun b=>!p b)++(bif p a then [] else [a]):=by
 rw[yi _ h];grind
theorem Es(xs:List Cell)(x:Cell)(ar:xs.length<=8388608):c6 prog (ap f197 0) (lC (xs.map Cell.e) x.op x.bh x.key x.val 0 []) (.exit 1) (xF x.op x.bh x.key x.val ((xs.filter fun a=>!e6 x a).map Cell.e)):=by
 have l:=er (P:=prog) (c:=(ap f197 0)) (cy 1) xs.length (fun i:Nat=>lC (xs.map Cell.e) x.op x.bh x.key x.val i (((xs.take i).filter fun a=>!e6 x a).map Cell.e)) (fun i hi=>by
  obtain⟨a,aj⟩:=c2 hi;rw[af1 (e6 x) aj];grind[af0,E1]) (att ⟨dG,ad⟩)
 grind
theorem Sz(kind:Int)(xs:List Cell)(x:Cell)(ar:xs.length<=8388608):al 197 [.one (I kind),.one (.J 4 (xs.map Cell.e)),.agg x.e] [.one (.J 4 (((c8 kind xs x).1).map Cell.e)),.one (B ((c8 kind xs x).2))]:=by
 have b8:=pC (fun a=>!e6 x a) xs;rcases cM (kind==6) with U | U
 ·skip
  have ct:=SY xs x (by omega);rcases cM (oA xs x) with aB | aB
  ·skip
   rw[show c8 kind xs x=(xs,false) from by grind[c8,jw]];exact atX ⟨(by grind),(by grind),(by grind[cr,eh,dE,Cell.flat,aK]),U,ct,aB,ad⟩
  skip
  have eo:=Ao xs x (by omega);rw[show c8 kind xs x=((kB xs x),true) from by grind[c8,jw]];exact atn ⟨(by grind),(by grind),(by grind[cr,eh,dE,Cell.flat,aK]),U,ct,aB,eo,ad⟩
 skip
 rcases cM (kind==5) with a6 | a6
 ·skip
  have ht:=Sm xs x.op x.bh x.key (by omega);rcases cM ((qy xs x.op x.bh x.key).2) with bY | bY
  ·skip
   rcases cM (decide (((qy xs x.op x.bh x.key).1)<=x.val)) with dy | dy
   ·skip
    rw[show c8 kind xs x=(xs,false) from by grind[c8,jw]];exact ato ⟨(by grind),(by grind),(by grind[cr,eh,dE,Cell.flat,aK]),U,a6,a6,ht,bY,dy,ad⟩
   skip
   
   have XQ:=Ao (xs.filter fun a=>!e6 x a) x (by omega);rw[show c8 kind xs x=((kB (xs.filter fun a=>!e6 x a) x),true) from by grind[c8,jw]];exact atu ⟨(by grind),(by grind),(by grind[cr,eh,dE,Cell.flat,aK]),U,a6,a6,ht,bY,dy,(Es xs x ar),XQ,ad⟩
  skip
  
  have wU:=Ao (xs.filter fun a=>!e6 x a) x (by omega);rw[show c8 kind xs x=((kB (xs.filter fun a=>!e6 x a) x),true) from by grind[c8,jw]];exact atv ⟨(by grind),(by grind),(by grind[cr,eh,dE,Cell.flat,aK]),U,a6,a6,ht,bY,(Es xs x ar),wU,ad⟩
 skip
 rcases cM (kind==8) with h0 | h0
 ·skip
  have n0:=Sm xs x.op x.bh x.key (by omega);rcases cM ((qy xs x.op x.bh x.key).2) with tB | tB
  ·skip
   rcases cM (decide (((qy xs x.op x.bh x.key).1)<=x.val)) with lm | lm
   ·skip
    rw[show c8 kind xs x=(xs,false) from by grind[c8,jw]];exact atw ⟨(by grind),(by grind),(by grind[cr,eh,dE,Cell.flat,aK]),U,a6,h0,n0,tB,lm,ad⟩
   skip
   
   have XO:=Ao (xs.filter fun a=>!e6 x a) x (by omega);rw[show c8 kind xs x=((kB (xs.filter fun a=>!e6 x a) x),true) from by grind[c8,jw]];exact au1 ⟨(by grind),(by grind),(by grind[cr,eh,dE,Cell.flat,aK]),U,a6,h0,n0,tB,lm,(Es xs x ar),XO,ad⟩
  skip
  
  have Ct:=Ao (xs.filter fun a=>!e6 x a) x (by omega);rw[show c8 kind xs x=((kB (xs.filter fun a=>!e6 x a) x),true) from by grind[c8,jw]];exact au2 ⟨(by grind),(by grind),(by grind[cr,eh,dE,Cell.flat,aK]),U,a6,h0,n0,tB,(Es xs x ar),Ct,ad⟩
 skip
 rw[show c8 kind xs x=(xs,true) from by grind[c8,jw]];exact au3 ⟨(by grind),(by grind),(by grind[cr,eh,dE,Cell.flat,aK]),U,a6,h0,ad⟩
theorem RZ(kind:Int)(xs:List Cell)(x:Cell)(ar:xs.length<=8388608):al 189 [.one (I kind),.one (.J 4 (xs.map Cell.e)),.agg x.e] [.one (.J 4 (((c8 kind xs x).1).map Cell.e)),.one (B ((c8 kind xs x).2))]:=by
 rcases cM (kind==5) with U | U
 ·skip
  have ct:=Sy xs x (by omega);rw[show c8 kind xs x=(((jw xs x).1),(jw xs x).2) from by grind[c8,jw,kB]];exact auj ⟨U,U,ct,ad⟩
 skip
 rcases cM (kind==8) with aB | aB
 ·skip
  have eo:=Sy xs x (by omega);rw[show c8 kind xs x=(((jw xs x).1),(jw xs x).2) from by grind[c8,jw,kB]];exact auk ⟨U,aB,eo,ad⟩
 skip
 rcases cM (kind==6) with a6 | a6
 ·skip
  have ht:=R' xs x (by omega);have GC:=S0 xs x (by omega);rw[show c8 kind xs x=((kB xs x),!(oA xs x)) from by grind[c8,jw,kB]];exact aul ⟨U,aB,a6,ht,GC,ad⟩
 skip
 have ml:=ux xs (by omega);rw[show c8 kind xs x=(xs,true) from by grind[c8,jw,kB]];exact aum ⟨U,aB,a6,ml,ad⟩
def iq(x:Node)(s:gY)(key val:Int):List aD:=x.outs.map fun k=>⟨k,s,key,val⟩
def cellOf(r:aD):Cell:=⟨r.op,r.bw.bh,r.key,r.val⟩
def dS(g:b5)(cs:List Cell)(r:aD)(x:Node):List Cell×List aD×Bool:=
 if ev g&&fb r then
  if !(cX x r.key r.val).2.2&&x.kind != 8 then (cs,[],true)
  else if !(c8 x.kind cs ⟨r.op,r.bw.bh,r.key,r.val⟩).2 then ((c8 x.kind cs ⟨r.op,r.bw.bh,r.key,r.val⟩).1,[],true)
  else if x.kind=7 then
   ((c8 x.kind cs ⟨r.op,r.bw.bh,r.key,r.val⟩).1,(bif (e5 r.bw).2 then iq x (e5 r.bw).1 (cX x r.key r.val).1 (cX x r.key r.val).2.1 else []),true)
  else ((c8 x.kind cs ⟨r.op,r.bw.bh,r.key,r.val⟩).1,iq x r.bw (cX x r.key r.val).1 (cX x r.key r.val).2.1,true)
 else (cs,[],false)
theorem xN(x:Node)(s:gY)(key val:Int){i:Nat}{k:Int}(h:x.outs[i]?=some k):(((x.outs.take (i+1)).map fun k=>(⟨k,s,key,val⟩:aD)).map aD.e)=(((x.outs.take i).map fun k=>(⟨k,s,key,val⟩:aD)).map aD.e)++[(⟨k,s,key,val⟩:aD).e]:=by
 simp[wL,h]
theorem R0(x:Node)(aq:x.outs.length<=8388608)(s:gY)(key val:Int)(iP:List (List D)):c6 prog (ap f156 0) (wc x.kind x.a x.b (x.outs.map bb) key val iP s.bh s.ei 0 []) (.exit 0) (ub iP ((iq x s key val).map aD.e)):=by
 have l:=er (P:=prog) (c:=(ap f156 0)) (cy 0) x.outs.length (fun i:Nat=>wc x.kind x.a x.b (x.outs.map bb) key val iP s.bh s.ei i (((x.outs.take i).map fun k=>(⟨k,s,key,val⟩:aD)).map aD.e)) (fun i hi=>by
  obtain⟨k,ba⟩:=c2 hi;rw[xN x s key val ba];exact agc ⟨cc hi,bB,bI hi,bC bb ba,by simp;omega,by simp;omega,fA (aD.flat ⟨k,s,key,val⟩),dc hi aq,ad⟩) (agd ⟨dG,ad⟩)
 rw[kX]at l;exact l
theorem R1(x:Node)(aq:x.outs.length<=8388608)(s:gY)(key val:Int)(iP:List (List D)):c6 prog (ap f156 0) (we s.bh s.ei x.kind x.a x.b (x.outs.map bb) key val iP 0 []) (.exit 0) (ub iP ((iq x s key val).map aD.e)):=by
 have l:=er (P:=prog) (c:=(ap f156 0)) (cy 0) x.outs.length (fun i:Nat=>we s.bh s.ei x.kind x.a x.b (x.outs.map bb) key val iP i (((x.outs.take i).map fun k=>(⟨k,s,key,val⟩:aD)).map aD.e)) (fun i hi=>by
  obtain⟨k,ba⟩:=c2 hi;rw[xN x s key val ba];exact agf ⟨cc hi,bB,bI hi,bC bb ba,by simp;omega,by simp;omega,fA (aD.flat ⟨k,s,key,val⟩),dc hi aq,ad⟩) (agh ⟨dG,ad⟩)
 rw[kX]at l;exact l
theorem R2(x:Node)(aq:x.outs.length<=8388608)(s:gY)(key val:Int)(iP:List (List D)):c6 prog (ap f156 0) (vx iP x.kind x.a x.b (x.outs.map bb) key val s.bh s.ei 0 []) (.exit 0) (uA iP ((iq x s key val).map aD.e)):=by
 have l:=er (P:=prog) (c:=(ap f156 0)) (cy 0) x.outs.length (fun i:Nat=>vx iP x.kind x.a x.b (x.outs.map bb) key val s.bh s.ei i (((x.outs.take i).map fun k=>(⟨k,s,key,val⟩:aD)).map aD.e)) (fun i hi=>by
  obtain⟨k,ba⟩:=c2 hi;rw[xN x s key val ba];exact agk ⟨cc hi,bB,bI hi,bC bb ba,by simp;omega,by simp;omega,fA (aD.flat ⟨k,s,key,val⟩),dc hi aq,ad⟩) (agl ⟨dG,ad⟩)
 rw[kX]at l;exact l
theorem R3(x:Node)(aq:x.outs.length<=8388608)(s:gY)(key val:Int)(iP:List (List D)):c6 prog (ap f156 0) (vy iP s.bh s.ei x.kind x.a x.b (x.outs.map bb) key val 0 []) (.exit 0) (uA iP ((iq x s key val).map aD.e)):=by
 have l:=er (P:=prog) (c:=(ap f156 0)) (cy 0) x.outs.length (fun i:Nat=>vy iP s.bh s.ei x.kind x.a x.b (x.outs.map bb) key val i (((x.outs.take i).map fun k=>(⟨k,s,key,val⟩:aD)).map aD.e)) (fun i hi=>by
  obtain⟨k,ba⟩:=c2 hi;rw[xN x s key val ba];exact agn ⟨cc hi,bB,bI hi,bC bb ba,by simp;omega,by simp;omega,fA (aD.flat ⟨k,s,key,val⟩),dc hi aq,ad⟩) (ago ⟨dG,ad⟩)
 rw[kX]at l;exact l
theorem R4(x:Node)(aq:x.outs.length<=8388608)(s:gY)(key val:Int)(iP:List (List D)):c6 prog (ap f151 0) (vz s.bh s.ei (x.outs.map bb) key val iP 0 []) (.exit 0) (uB iP ((iq x s key val).map aD.e)):=by
 have l:=er (P:=prog) (c:=(ap f151 0)) (cy 0) x.outs.length (fun i:Nat=>vz s.bh s.ei (x.outs.map bb) key val iP i (((x.outs.take i).map fun k=>(⟨k,s,key,val⟩:aD)).map aD.e)) (fun i hi=>by
  obtain⟨k,ba⟩:=c2 hi;rw[xN x s key val ba];exact afM ⟨cc hi,bB,bI hi,bC bb ba,rfl,by simp;omega,by simp;omega,fA (aD.flat ⟨k,s,key,val⟩),dc hi aq,ad⟩) (afN ⟨dG,ad⟩)
 rw[kX]at l;exact l
theorem R5(x:Node)(aq:x.outs.length<=8388608)(b:Bool)(s:gY)(key val:Int)(iP:List (List D)):c6 prog (ap f151 0) (rD (x.outs.map bb) key val iP s.bh s.ei b 0 []) (.exit 0) (uB iP ((bif b then iq x s key val else []).map aD.e)):=by
 cases b with
 | true=>
  have l:=er (P:=prog) (c:=(ap f151 0)) (cy 0) x.outs.length (fun i:Nat=>rD (x.outs.map bb) key val iP s.bh s.ei true i (((x.outs.take i).map fun k=>(⟨k,s,key,val⟩:aD)).map aD.e)) (fun i hi=>by
   obtain⟨k,ba⟩:=c2 hi;rw[xN x s key val ba];exact afJ ⟨cc hi,bB,bI hi,bC bb ba,rfl,by simp;omega,by simp;omega,fA (aD.flat ⟨k,s,key,val⟩),dc hi aq,ad⟩) (Sv ⟨dG,ad⟩)
  rw[kX]at l;exact l
 | false=>
  exact er (P:=prog) (c:=(ap f151 0)) (cy 0) x.outs.length (fun i:Nat=>rD (x.outs.map bb) key val iP s.bh s.ei false i []) (fun i hi=>by
   obtain⟨k,ba⟩:=c2 hi;exact afK ⟨cc hi,bB,bI hi,bC bb ba,rfl,dc hi aq,ad⟩) (Sv ⟨dG,ad⟩)
theorem afs(g:b5)(cs:List Cell)(r:aD)(x:Node)(ax:g.sz<=8388608)(ar:cs.length<=8388608)(a':gi g r.op=some x):al 156 [.agg g.e,.one (.J 4 (cs.map Cell.e)),.agg r.e] [.one (.J 4 ((dS g cs r x).1.map Cell.e)),.one (.J 5 ((dS g cs r x).2.1.map aD.e)),.one (B (dS g cs r x).2.2)]:=by
 have aq:=b5.zV ax (Lt a');obtain⟨nj,sj,_,_⟩:=E6 a';have dz:g.nodes[r.op.toNat]?=some x:=by simp_all[gi,bL]
 have bK:=E8 g r.op (x,true) (by grind[uy]) ax;have ct:=xJ g ax;rcases cM (ev g) with aB | aB
 ·skip
  have eo:=s5 r;rcases cM (fb r) with a6 | a6
  ·skip
   have ht:=adi x r.key r.val aq;rcases cM ((cX x r.key r.val).2.2) with bY | bY
   ·skip
    have ml:=Sw x.kind;rcases cM (ga x.kind) with eg | eg
    ·skip
     have wU:=Sz x.kind cs (⟨r.op,r.bw.bh,r.key,r.val⟩:Cell) (by omega);rcases cM ((c8 x.kind cs (⟨r.op,r.bw.bh,r.key,r.val⟩:Cell)).2) with h0 | h0
     ·skip
      rcases cM (x.kind==7) with ig | ig
      ·skip
       have mS:=xI r.bw;rcases cM ((e5 r.bw).2) with lm | lm
       ·skip
        
        rw[show dS g cs r x=(((c8 x.kind cs (⟨r.op,r.bw.bh,r.key,r.val⟩:Cell)).1),(iq x ((e5 r.bw).1) ((cX x r.key r.val).1) ((cX x r.key r.val).2.1)),true) from by grind[dS,ga,c8]];exact ags ⟨(by grind),(by grind),(by grind[cr,eh,dE,Cell.flat,aK]),bK,rfl,ct,(by rw[aB];rfl),eo,(by rw[a6];rfl),ht,(by rw[bY];rfl),ml,eg,wU,(by rw[h0];rfl),ig,mS,(by rw[lm];rfl),(R0 x aq ((e5 r.bw).1) ((cX x r.key r.val).1) ((cX x r.key r.val).2.1) _),ad⟩
       skip
       rw[show dS g cs r x=(((c8 x.kind cs (⟨r.op,r.bw.bh,r.key,r.val⟩:Cell)).1),([]:List aD),true) from by grind[dS,ga,c8]];exact agr ⟨(by grind),(by grind),(by grind[cr,eh,dE,Cell.flat,aK]),bK,rfl,ct,(by rw[aB];rfl),eo,(by rw[a6];rfl),ht,(by rw[bY];rfl),ml,eg,wU,(by rw[h0];rfl),ig,mS,(by rw[lm];rfl),ad⟩
      skip
      
      rw[show dS g cs r x=(((c8 x.kind cs (⟨r.op,r.bw.bh,r.key,r.val⟩:Cell)).1),(iq x r.bw ((cX x r.key r.val).1) ((cX x r.key r.val).2.1)),true) from by grind[dS,ga,c8]];exact afC ⟨(by grind),(by grind),(by grind[cr,eh,dE,Cell.flat,aK]),bK,rfl,ct,(by rw[aB];rfl),eo,(by rw[a6];rfl),ht,(by rw[bY];rfl),ml,eg,wU,(by rw[h0];rfl),ig,(R1 x aq r.bw ((cX x r.key r.val).1) ((cX x r.key r.val).2.1) _),ad⟩
     skip
     rw[show dS g cs r x=(((c8 x.kind cs (⟨r.op,r.bw.bh,r.key,r.val⟩:Cell)).1),([]:List aD),true) from by grind[dS,ga,c8]];exact agq ⟨(by grind),(by grind),(by grind[cr,eh,dE,Cell.flat,aK]),bK,rfl,ct,(by rw[aB];rfl),eo,(by rw[a6];rfl),ht,(by rw[bY];rfl),ml,eg,wU,(by rw[h0];rfl),ad⟩
    skip
    rcases cM (x.kind==7) with jK | jK
    ·skip
     have Ct:=xI r.bw;rcases cM ((e5 r.bw).2) with qX | qX
     ·skip
      
      rw[show dS g cs r x=(cs,(iq x ((e5 r.bw).1) ((cX x r.key r.val).1) ((cX x r.key r.val).2.1)),true) from by grind[dS,ga,c8]];exact afE ⟨(by grind),(by grind),(by grind[cr,eh,dE,Cell.flat,aK]),bK,rfl,ct,(by rw[aB];rfl),eo,(by rw[a6];rfl),ht,(by rw[bY];rfl),ml,eg,jK,Ct,(by rw[qX];rfl),(R2 x aq ((e5 r.bw).1) ((cX x r.key r.val).1) ((cX x r.key r.val).2.1) _),ad⟩
     skip
     rw[show dS g cs r x=(cs,([]:List aD),true) from by grind[dS,ga,c8]];exact afD ⟨(by grind),(by grind),(by grind[cr,eh,dE,Cell.flat,aK]),bK,rfl,ct,(by rw[aB];rfl),eo,(by rw[a6];rfl),ht,(by rw[bY];rfl),ml,eg,jK,Ct,(by rw[qX];rfl),ad⟩
    skip
    
    rw[show dS g cs r x=(cs,(iq x r.bw ((cX x r.key r.val).1) ((cX x r.key r.val).2.1)),true) from by grind[dS,ga,c8]];exact afF ⟨(by grind),(by grind),(by grind[cr,eh,dE,Cell.flat,aK]),bK,rfl,ct,(by rw[aB];rfl),eo,(by rw[a6];rfl),ht,(by rw[bY];rfl),ml,eg,jK,(R3 x aq r.bw ((cX x r.key r.val).1) ((cX x r.key r.val).2.1) _),ad⟩
   skip
   rcases cM (x.kind != 8) with g' | g'
   ·skip
    rw[show dS g cs r x=(cs,([]:List aD),true) from by grind[dS,ga,c8]];exact af9 ⟨(by grind),(by grind),(by grind[cr,eh,dE,Cell.flat,aK]),bK,rfl,ct,(by rw[aB];rfl),eo,(by rw[a6];rfl),ht,(by rw[bY];rfl),g',ad⟩
   skip
   have jd:=Sw x.kind;rcases cM (ga x.kind) with fa | fa
   ·skip
    have mT:=Sz x.kind cs (⟨r.op,r.bw.bh,r.key,r.val⟩:Cell) (by omega);rcases cM ((c8 x.kind cs (⟨r.op,r.bw.bh,r.key,r.val⟩:Cell)).2) with ln | ln
    ·skip
     rcases cM (x.kind==7) with j6 | j6
     ·skip
      have NU:=xI r.bw;rcases cM ((e5 r.bw).2) with pM | pM
      ·skip
       
       rw[show dS g cs r x=(((c8 x.kind cs (⟨r.op,r.bw.bh,r.key,r.val⟩:Cell)).1),(iq x ((e5 r.bw).1) ((cX x r.key r.val).1) ((cX x r.key r.val).2.1)),true) from by grind[dS,ga,c8]];exact age ⟨(by first | omega | (simp only[cr,eh];omega) | exact dE _ Cell.flat _ | grind[aK]),(by first | omega | (simp only[cr,eh];omega) | exact dE _ Cell.flat _ | grind[aK]),(by first | omega | (simp only[cr,eh];omega) | exact dE _ Cell.flat _ | grind[aK]),bK,rfl,ct,(by rw[aB];rfl),eo,(by rw[a6];rfl),ht,(by rw[bY];rfl),g',jd,fa,mT,(by rw[ln];rfl),j6,NU,(by rw[pM];rfl),(R0 x aq ((e5 r.bw).1) ((cX x r.key r.val).1) ((cX x r.key r.val).2.1) _),ad⟩
      skip
      rw[show dS g cs r x=(((c8 x.kind cs (⟨r.op,r.bw.bh,r.key,r.val⟩:Cell)).1),([]:List aD),true) from by grind[dS,ga,c8]];exact agb ⟨(by first | omega | (simp only[cr,eh];omega) | exact dE _ Cell.flat _ | grind[aK]),(by first | omega | (simp only[cr,eh];omega) | exact dE _ Cell.flat _ | grind[aK]),(by first | omega | (simp only[cr,eh];omega) | exact dE _ Cell.flat _ | grind[aK]),bK,rfl,ct,(by rw[aB];rfl),eo,(by rw[a6];rfl),ht,(by rw[bY];rfl),g',jd,fa,mT,(by rw[ln];rfl),j6,NU,(by rw[pM];rfl),ad⟩
     skip
     
     rw[show dS g cs r x=(((c8 x.kind cs (⟨r.op,r.bw.bh,r.key,r.val⟩:Cell)).1),(iq x r.bw ((cX x r.key r.val).1) ((cX x r.key r.val).2.1)),true) from by grind[dS,ga,c8]];exact agi ⟨(by grind),(by grind),(by grind[cr,eh,dE,Cell.flat,aK]),bK,rfl,ct,(by rw[aB];rfl),eo,(by rw[a6];rfl),ht,(by rw[bY];rfl),g',jd,fa,mT,(by rw[ln];rfl),j6,(R1 x aq r.bw ((cX x r.key r.val).1) ((cX x r.key r.val).2.1) _),ad⟩
    skip
    rw[show dS g cs r x=(((c8 x.kind cs (⟨r.op,r.bw.bh,r.key,r.val⟩:Cell)).1),([]:List aD),true) from by grind[dS,ga,c8]];exact aga ⟨(by grind),(by grind),(by grind[cr,eh,dE,Cell.flat,aK]),bK,rfl,ct,(by rw[aB];rfl),eo,(by rw[a6];rfl),ht,(by rw[bY];rfl),g',jd,fa,mT,(by rw[ln];rfl),ad⟩
   skip
   rcases cM (x.kind==7) with pN | pN
   ·skip
    have NV:=xI r.bw;rcases cM ((e5 r.bw).2) with n1 | n1
    ·skip
     
     rw[show dS g cs r x=(cs,(iq x ((e5 r.bw).1) ((cX x r.key r.val).1) ((cX x r.key r.val).2.1)),true) from by grind[dS,ga,c8]];exact agm ⟨(by first | omega | (simp only[cr,eh];omega) | exact dE _ Cell.flat _ | grind[aK]),(by first | omega | (simp only[cr,eh];omega) | exact dE _ Cell.flat _ | grind[aK]),(by first | omega | (simp only[cr,eh];omega) | exact dE _ Cell.flat _ | grind[aK]),bK,rfl,ct,(by rw[aB];rfl),eo,(by rw[a6];rfl),ht,(by rw[bY];rfl),g',jd,fa,pN,NV,(by rw[n1];rfl),(R2 x aq ((e5 r.bw).1) ((cX x r.key r.val).1) ((cX x r.key r.val).2.1) _),ad⟩
    skip
    rw[show dS g cs r x=(cs,([]:List aD),true) from by grind[dS,ga,c8]];exact agj ⟨(by first | omega | (simp only[cr,eh];omega) | exact dE _ Cell.flat _ | grind[aK]),(by first | omega | (simp only[cr,eh];omega) | exact dE _ Cell.flat _ | grind[aK]),(by first | omega | (simp only[cr,eh];omega) | exact dE _ Cell.flat _ | grind[aK]),bK,rfl,ct,(by rw[aB];rfl),eo,(by rw[a6];rfl),ht,(by rw[bY];rfl),g',jd,fa,pN,NV,(by rw[n1];rfl),ad⟩
   skip
   
   rw[show dS g cs r x=(cs,(iq x r.bw ((cX x r.key r.val).1) ((cX x r.key r.val).2.1)),true) from by grind[dS,ga,c8]];exact agp ⟨(by grind),(by grind),(by grind[cr,eh,dE,Cell.flat,aK]),bK,rfl,ct,(by rw[aB];rfl),eo,(by rw[a6];rfl),ht,(by rw[bY];rfl),g',jd,fa,pN,(R3 x aq r.bw ((cX x r.key r.val).1) ((cX x r.key r.val).2.1) _),ad⟩
  skip
  rw[show dS g cs r x=(cs,([]:List aD),false) from by grind[dS,ga,c8]];exact af8 ⟨(by grind),(by grind),(by grind[cr,eh,dE,Cell.flat,aK]),bK,rfl,ct,(by rw[aB];rfl),eo,(by rw[a6];rfl),ad⟩
 skip
 rw[show dS g cs r x=(cs,([]:List aD),false) from by grind[dS,ga,c8]];exact af7 ⟨(by grind),(by grind),(by grind[cr,eh,dE,Cell.flat,aK]),bK,rfl,ct,(by rw[aB];rfl),ad⟩
theorem aft(g:b5)(cs:List Cell)(r:aD)(x:Node)(ax:g.sz<=8388608)(ar:cs.length<=8388608)(a':gi g r.op=some x):al 151 [.agg g.e,.one (.J 4 (cs.map Cell.e)),.agg r.e] [.one (.J 4 ((dS g cs r x).1.map Cell.e)),.one (.J 5 ((dS g cs r x).2.1.map aD.e)),.one (B (dS g cs r x).2.2)]:=by
 have aq:=b5.zV ax (Lt a');obtain⟨nj,sj,_,_⟩:=E6 a';have dz:g.nodes[r.op.toNat]?=some x:=by simp_all[gi,bL]
 have bK:=xK g ax;rcases cM (ev g) with aa | aa
 ·skip
  have cG:=tV r;rcases cM (fb r) with aJ | aJ
  ·skip
   have gm:=xH g r.op true (by rw[a'];rfl) ax;have ht:=adj x r.key r.val aq;rcases cM ((cX x r.key r.val).2.2) with bY | bY
   ·skip
    have ml:=RZ x.kind cs (⟨r.op,r.bw.bh,r.key,r.val⟩:Cell) (by omega);rcases cM ((c8 x.kind cs (⟨r.op,r.bw.bh,r.key,r.val⟩:Cell)).2) with eg | eg
    ·skip
     rcases cM (x.kind==7) with dH | dH
     ·skip
      have pI:=LB r.bw
      
      rw[show dS g cs r x=(((c8 x.kind cs (⟨r.op,r.bw.bh,r.key,r.val⟩:Cell)).1),(bif (e5 r.bw).2 then iq x ((e5 r.bw).1) ((cX x r.key r.val).1) ((cX x r.key r.val).2.1) else []),true) from by grind[dS,ga,c8]];exact afQ ⟨bK,(by rw[aa];rfl),cG,(by rw[aJ];rfl),gm,rfl,(by grind),(by grind),(bN Node.e dz),ht,(by rw[bY];rfl),ml,(by rw[eg];rfl),dH,pI,(R5 x aq ((e5 r.bw).2) ((e5 r.bw).1) ((cX x r.key r.val).1) ((cX x r.key r.val).2.1) _),ad⟩
     skip
     
     rw[show dS g cs r x=(((c8 x.kind cs (⟨r.op,r.bw.bh,r.key,r.val⟩:Cell)).1),(iq x r.bw ((cX x r.key r.val).1) ((cX x r.key r.val).2.1)),true) from by grind[dS,ga,c8]];exact afR ⟨bK,(by rw[aa];rfl),cG,(by rw[aJ];rfl),gm,rfl,(by grind),(by grind),(bN Node.e dz),ht,(by rw[bY];rfl),ml,(by rw[eg];rfl),dH,(R4 x aq r.bw ((cX x r.key r.val).1) ((cX x r.key r.val).2.1) _),ad⟩
    skip
    rw[show dS g cs r x=(((c8 x.kind cs (⟨r.op,r.bw.bh,r.key,r.val⟩:Cell)).1),([]:List aD),true) from by grind[dS,ga,c8]];exact afP ⟨bK,(by rw[aa];rfl),cG,(by rw[aJ];rfl),gm,rfl,(by grind),(by grind),(bN Node.e dz),ht,(by rw[bY];rfl),ml,(by rw[eg];rfl),ad⟩
   skip
   rcases cM (x.kind != 8) with ig | ig
   ·skip
    have mS:=ux cs (by omega);rw[show dS g cs r x=(cs,([]:List aD),true) from by grind[dS,ga,c8]];exact afH ⟨bK,(by rw[aa];rfl),cG,(by rw[aJ];rfl),gm,rfl,(by grind),(by grind),(bN Node.e dz),ht,(by rw[bY];rfl),ig,mS,ad⟩
   skip
   have Gz:=RZ x.kind cs (⟨r.op,r.bw.bh,r.key,r.val⟩:Cell) (by omega);rcases cM ((c8 x.kind cs (⟨r.op,r.bw.bh,r.key,r.val⟩:Cell)).2) with jK | jK
   ·skip
    rcases cM (x.kind==7) with cA | cA
    ·skip
     have lR:=LB r.bw
     
     rw[show dS g cs r x=(((c8 x.kind cs (⟨r.op,r.bw.bh,r.key,r.val⟩:Cell)).1),(bif (e5 r.bw).2 then iq x ((e5 r.bw).1) ((cX x r.key r.val).1) ((cX x r.key r.val).2.1) else []),true) from by grind[dS,ga,c8]];exact afL ⟨bK,(by rw[aa];rfl),cG,(by rw[aJ];rfl),gm,rfl,(by first | omega | (simp only[cr,eh];omega) | exact dE _ Cell.flat _ | grind[aK]),(by first | omega | (simp only[cr,eh];omega) | exact dE _ Cell.flat _ | grind[aK]),(bN Node.e dz),ht,(by rw[bY];rfl),ig,Gz,(by rw[jK];rfl),cA,lR,(R5 x aq ((e5 r.bw).2) ((e5 r.bw).1) ((cX x r.key r.val).1) ((cX x r.key r.val).2.1) _),ad⟩
    skip
    
    rw[show dS g cs r x=(((c8 x.kind cs (⟨r.op,r.bw.bh,r.key,r.val⟩:Cell)).1),(iq x r.bw ((cX x r.key r.val).1) ((cX x r.key r.val).2.1)),true) from by grind[dS,ga,c8]];exact afO ⟨bK,(by rw[aa];rfl),cG,(by rw[aJ];rfl),gm,rfl,(by grind),(by grind),(bN Node.e dz),ht,(by rw[bY];rfl),ig,Gz,(by rw[jK];rfl),cA,(R4 x aq r.bw ((cX x r.key r.val).1) ((cX x r.key r.val).2.1) _),ad⟩
   skip
   rw[show dS g cs r x=(((c8 x.kind cs (⟨r.op,r.bw.bh,r.key,r.val⟩:Cell)).1),([]:List aD),true) from by grind[dS,ga,c8]];exact afI ⟨bK,(by rw[aa];rfl),cG,(by rw[aJ];rfl),gm,rfl,(by grind),(by grind),(bN Node.e dz),ht,(by rw[bY];rfl),ig,Gz,(by rw[jK];rfl),ad⟩
  skip
  have XP:=ux cs (by omega);rw[show dS g cs r x=(cs,([]:List aD),false) from by grind[dS,ga,c8]];exact Su ⟨bK,(by rw[aa];rfl),cG,(by rw[aJ];rfl),XP,ad⟩
 skip
 have jd:=ux cs (by omega);rw[show dS g cs r x=(cs,([]:List aD),false) from by grind[dS,ga,c8]];exact St ⟨bK,(by rw[aa];rfl),jd,ad⟩
end Go.Proofs.YthfnndblgbjniaaGreatDoor
namespace Go.Proofs.YthfnndblgbjniaaGreatDoor
open Go.Sx Go.RowKit Go.Proofs.Tryz
variable{c:bi}
theorem bi.IF(h:c.wf){l:br}(ar:l∈c.bU):l.wf:=h.Z5.2 l ar
structure yK (c:bi):Prop where
 n:aK .i64 c.aA.az
 l:∀l∈c.bU,aK .i64 l.cap/\l.de<=9223372036854775807
theorem yK.of(h:c.wf):yK c:=⟨h.X5.VU,fun l ar=>⟨(bi.IF h ar).NZ,(bi.IF h ar).N'.2⟩⟩
theorem bi.Di(h:c.sz<=8388608){l:br}(ar:l∈c.bU):l.sz<=8388608:=by
 grind[vJ,br.sz,bi.sz]
def qz(e:Int)(l:br):Nat:=(l8 e l.queue).length
theorem wG{α:Type}{f:Int->α}{xs:List Int}(h:xs.length<=8388608):IntKind.i64.wrap ((↑(xs.map f).length:Int)-1)=(xs.length:Int)-1:=by
 rw[cr];exact aK.wrap ⟨by omega,by omega⟩
def jx(key az:Int):Int:=if az<1 then 0 else if key.tmod az<0 then key.tmod az+az else key.tmod az
theorem K1(a b:Int)(h:0<b):- b<a.tmod b:=by
 rcases Int.le_total 0 a with aj | aj
 ·have:=Int.tmod_nonneg b aj;omega
 have U:(-a).tmod b<b:=Int.tmod_lt_of_pos _ h;rw[Int.neg_tmod]at U;omega
theorem R6(key az:Int)(hw:az<=9223372036854775807):al 158 [.one (I key),.one (I az)] [.one (I (jx key az))]:=by
 unfold jx;split
 ·exact adn ⟨by simpa using ‹az<1›,ad⟩
 rename_i h;have U:=K1 key az (by omega);have aa:key.tmod az<az:=Int.tmod_lt_of_pos _ (by omega);split
 ·rename_i aB;exact ado ⟨by simp only[nR];omega,by omega,by simpa using aB,⟨by omega,by omega⟩,ad⟩
 rename_i aB;exact adp ⟨by simp only[nR];omega,by omega,by simpa using aB,ad⟩
theorem afu(key az:Int)(hw:az<=9223372036854775807):al 100 [.one (I key),.one (I az)] [.one (I (jx key az))]:=by
 unfold jx;split
 ·exact adq ⟨by simpa using ‹az<1›,ad⟩
 rename_i h;have U:=K1 key az (by omega);have aa:key.tmod az<az:=Int.tmod_lt_of_pos _ (by omega);split
 ·rename_i aB;exact adr ⟨by simp only[nR];omega,by omega,by simpa using aB,⟨by omega,by omega⟩,ad⟩
 rename_i aB;exact acA ⟨by simp only[nR];omega,by omega,by simpa using aB,ad⟩
theorem aR.Fj{w:aR}(h:w.sz<=8388608):w.queue.length<=8388608:=by grind[aR.sz]
theorem aR.xr{w:aR}(h:w.sz<=8388608):w.cb.length<=8388608:=by grind[aR.sz]
end Go.Proofs.YthfnndblgbjniaaGreatDoor
namespace Go.Proofs.YthfnndblgbjniaaGreatDoor
open Go.Sx Go.RowKit Go.Proofs.Tryz
def dO(g:b5)(cs:List Cell)(r:aD):List Cell×List aD×Bool:=match gi g r.op with | some x=>dS g cs r x | none=>(cs,[],false)
theorem R7(g:b5)(cs:List Cell)(r:aD)(ax:g.sz<=8388608)(ar:cs.length<=8388608):al 156 [.agg g.e,.one (.J 4 (cs.map Cell.e)),.agg r.e] [.one (.J 4 ((dO g cs r).1.map Cell.e)),.one (.J 5 ((dO g cs r).2.1.map aD.e)),.one (B (dO g cs r).2.2)]:=by
 unfold dO;cases h:gi g r.op with
 | some x=>exact afs g cs r x ax ar h
 | none=>exact af6 ⟨by simp<;>omega,by simp<;>omega,dE _ Cell.flat _,E8 g r.op (⟨0,0,0,[]⟩,false) (by unfold uy;rw[h]) ax,rfl,ad⟩
theorem afv(g:b5)(cs:List Cell)(r:aD)(ax:g.sz<=8388608)(ar:cs.length<=8388608):al 151 [.agg g.e,.one (.J 4 (cs.map Cell.e)),.agg r.e] [.one (.J 4 ((dO g cs r).1.map Cell.e)),.one (.J 5 ((dO g cs r).2.1.map aD.e)),.one (B (dO g cs r).2.2)]:=by
 unfold dO;cases h:gi g r.op with
 | some x=>exact aft g cs r x ax ar h
 | none=>
  have bK:=xK g ax;have ct:=tV r;have cG:=xH g r.op false (by rw[h];rfl) ax;have cx:=ux cs ar;generalize ev g=e0 at*;generalize fb r=fQ at*;cases e0 with
  | false=>exact St ⟨bK,rfl,cx,ad⟩
  | true=>
   cases fQ with
   | false=>exact Su ⟨bK,rfl,ct,rfl,cx,ad⟩
   | true=>exact afG ⟨bK,rfl,ct,rfl,cG,rfl,cx,ad⟩
def kf(g:b5)(r:aD)(x:Node):Bool:=ev g&&fb r&&x.kind==7&&decide (0<x.outs.length)&&!(e5 r.bw).2
def dx(g:b5)(r:aD):Bool:=match gi g r.op with | some x=>kf g r x | none=>false
theorem afw(g:b5)(r:aD)(x:Node)(ax:g.sz<=8388608)(a':gi g r.op=some x):al 157 [.agg g.e,.agg r.e] [.one (B (kf g r x))]:=by
 have bK:=E8 g r.op (x,true) (by unfold uy;rw[a']) ax;have ct:=xI r.bw;have cG:=xJ g ax;rcases cM (ev g) with aJ | aJ
 ·skip
  have gm:=s5 r;rcases cM (fb r) with bF | bF
  ·skip
   rcases cM (x.kind==7) with bY | bY
   ·skip
    rcases cM (decide ((↑(x.outs.map bb).length:Int)>0)) with dy | dy
    ·skip
     rw[show kf g r x=(!((e5 r.bw).2)) from by grind[kf]];exact aeA ⟨bK,ct,rfl,cG,aJ,gm,bF,bY,dy,ad⟩
    skip
    rw[show kf g r x=false from by grind[kf]];exact aeB ⟨bK,ct,rfl,cG,aJ,gm,bF,bY,dy,ad⟩
   skip
   rw[show kf g r x=false from by grind[kf]];exact af2 ⟨bK,ct,rfl,cG,aJ,gm,bF,bY,ad⟩
  skip
  rw[show kf g r x=false from by grind[kf]];exact af3 ⟨bK,ct,rfl,cG,aJ,gm,bF,ad⟩
 skip
 rw[show kf g r x=false from by grind[kf]];exact af4 ⟨bK,ct,rfl,cG,aJ,ad⟩
theorem R8(g:b5)(r:aD)(ax:g.sz<=8388608):al 157 [.agg g.e,.agg r.e] [.one (B (dx g r))]:=by
 unfold dx;cases h:gi g r.op with
 | some x=>exact afw g r x ax h
 | none=>exact af5 ⟨E8 g r.op (⟨0,0,0,[]⟩,false) (by unfold uy;rw[h]) ax,xI r.bw,rfl,ad⟩
theorem K2{g:b5}(h:ev g=true){op:Int}{x:Node}(a':gi g op=some x):aQ x=true:=by
 simp only[ev,cH,i']at h;unfold gi at a';split at a'
 ·have:=EN h.2 op.toNat x a';simp only[jv,gX,lf]at this;exact this.1.1
 cases a'
theorem afx{x:Node}(h:aQ x=true):x.outs.length<=2:=by
 simp only[aQ,cH,c3]at h;exact h.1.1.1.2
theorem afy(kind:Int)(cs:List Cell)(x:Cell):(c8 kind cs x).1.length<=cs.length+1:=by
 have U:=SX cs x;have aa:=SX (cs.filter fun a=>!e6 x a) x;have aB:=pC (fun a=>!e6 x a) cs;unfold c8;split
 ·split<;>simp<;>omega
 split
 ·unfold jw;split<;>simp<;>omega
 simp
theorem afz{g:b5}(ax:ev g=true)(cs:List Cell)(r:aD):(dO g cs r).1.length<=cs.length+1/\(dO g cs r).2.1.length<=2:=by
 unfold dO;cases h:gi g r.op with
 | none=>exact⟨by simp,by simp⟩
 | some x=>
  have aq:=afx (K2 ax h);have aH:=afy x.kind cs ⟨r.op,r.bw.bh,r.key,r.val⟩;have ak:∀s k v,(iq x s k v).length<=2:=fun s k v=>by simpa[iq]using aq
  simp only[dS];split
  ·split
   ·exact⟨by simp,by simp⟩
   split
   ·exact⟨aH,by simp⟩
   split
   ·refine⟨aH,?_⟩;cases (e5 r.bw).2 with
    | true=>exact ak _ _ _
    | false=>simp
   exact⟨aH,ak _ _ _⟩
  exact⟨by simp,by simp⟩
end Go.Proofs.YthfnndblgbjniaaGreatDoor
namespace Go.Proofs.YthfnndblgbjniaaGreatDoor
open Go.Sx Go.RowKit Go.Proofs.Tryz
def Et(p:Cell×Cell):Bool:=decide (h4 p.1 p.2>=0)
def kg(xs:List Cell):Bool:=!((xs.zip (xs.drop 1)).any Et)
variable{xs:List Cell}
theorem Av{i:Nat}{p:Cell×Cell}(h:(xs.zip (xs.drop 1))[i]?=some p):xs[i]?=some p.1/\xs[i+1]?=some p.2:=by
 rw[List.getElem?_zip_eq_some]at h;obtain⟨U,aa⟩:=h;rw[kW,Nat.add_comm]at aa;exact⟨U,aa⟩
theorem afA(xs:List Cell)(ar:xs.length<=8388608):al 184 [.one (.J 4 (xs.map Cell.e))] [.one (B (kg xs))]:=by
 have bz:∀i:Nat,(((i:Int)+1)-1).toNat=i:=fun i=>by omega
 have e1:∀i:Nat,(((i:Int)+1)).toNat=i+1:=fun i=>by omega
 have bp:(xs.zip (xs.drop 1)).length=xs.length-1:=by simp
 have l:=gI (P:=prog) (c:=(ap f184 0)) (xs.zip (xs.drop 1)) Et (fun i=>tW (xs.map Cell.e) ((i:Int)+1)) (X:=fun _ _=>LD false) ff (cy 0)
  (fun i a aj h=>by
   obtain⟨U,aa⟩:=Av aj;have hi:=a7 aa;refine wF (tW (xs.map Cell.e)) (acC ⟨dm (by simp only[cr];omega),⟨by omega,by omega⟩,by omega,by simp only[cr];omega,by rw[bz,dP,U];rfl,by omega,by simp only[cr];omega,by rw[e1,dP,aa];rfl,E4 a.1 a.2,h,⟨by omega,by omega⟩,ad⟩) (by omega))
  (fun i a aj h=>by
   obtain⟨U,aa⟩:=Av aj;have hi:=a7 aa;exact acB ⟨dm (by simp only[cr];omega),⟨by omega,by omega⟩,by omega,by simp only[cr];omega,by rw[bz,dP,U];rfl,by omega,by simp only[cr];omega,by rw[e1,dP,aa];rfl,E4 a.1 a.2,h,ad⟩)
  (acD ⟨dX (by rw[bp];simp only[cr];omega),ad⟩)
 unfold kg;rcases l with⟨_,_,U,aa⟩ | ⟨i,a,_,_,_,_,U,aa⟩
 ·rw[U];exact acF ⟨aa,ad⟩
 rw[U];exact acE ⟨aa,ad⟩
theorem TA{r:Bool}(h:kg xs=r)(ar:xs.length<=8388608):al 184 [.one (.J 4 (xs.map Cell.e))] [.one (B r)]:=h▸afA xs ar
theorem afB(xs:List Cell)(ar:xs.length<=8388608):al 129 [.one (.J 4 (xs.map Cell.e))] [.one (B (kg xs))]:=by
 have bz:∀i:Nat,(((i:Int)+1)-1).toNat=i:=fun i=>by omega
 have e1:∀i:Nat,(((i:Int)+1)).toNat=i+1:=fun i=>by omega
 have bp:(xs.zip (xs.drop 1)).length=xs.length-1:=by simp
 have l:=gI (P:=prog) (c:=(ap f129 0)) (xs.zip (xs.drop 1)) Et (fun i=>tX (xs.map Cell.e) ((i:Int)+1)) (X:=fun _ _=>LF false) ff (cy 0)
  (fun i a aj h=>by
   obtain⟨U,aa⟩:=Av aj;have hi:=a7 aa;refine wF (tX (xs.map Cell.e)) (acH ⟨dm (by simp only[cr];omega),⟨by omega,by omega⟩,by omega,by simp only[cr];omega,by rw[bz,dP,U];rfl,by omega,by simp only[cr];omega,by rw[e1,dP,aa];rfl,E3 a.1 a.2,h,⟨by omega,by omega⟩,ad⟩) (by omega))
  (fun i a aj h=>by
   obtain⟨U,aa⟩:=Av aj;have hi:=a7 aa;exact acG ⟨dm (by simp only[cr];omega),⟨by omega,by omega⟩,by omega,by simp only[cr];omega,by rw[bz,dP,U];rfl,by omega,by simp only[cr];omega,by rw[e1,dP,aa];rfl,E3 a.1 a.2,h,ad⟩)
  (acI ⟨dX (by rw[bp];simp only[cr];omega),ad⟩)
 unfold kg;rcases l with⟨_,_,U,aa⟩ | ⟨i,a,_,_,_,_,U,aa⟩
 ·rw[U];exact acK ⟨aa,ad⟩
 rw[U];exact acJ ⟨aa,ad⟩
theorem TB{r:Bool}(h:kg xs=r)(ar:xs.length<=8388608):al 129 [.one (.J 4 (xs.map Cell.e))] [.one (B r)]:=h▸afB xs ar
def lD(g:b5)(r:aD):Bool:=!fb r||decide (r.op>=(g.nodes.length:Int))
def gb(g:b5)(xs:List aD):Bool:=!(xs.any (lD g))
theorem ag3{r:aD}(h:fb r=true):0<=r.op:=by
 simp only[fb,cH,av,c3]at h;omega
theorem ag4(g:b5)(xs:List aD)(ar:xs.length<=8388608):al 141 [.agg g.e,.one (.J 5 (xs.map aD.e))] [.one (B (gb g xs))]:=by
 have l:=gI (P:=prog) (c:=(ap f141 0)) xs (lD g) (fun i=>tY (g.nodes.map Node.e) g.az g.cap (xs.map aD.e) i) (X:=fun _ _=>E9 false) ff (cy 0)
  (fun i a aj h=>by
   simp only[lD,gX,lf]at h;have c:=s5 a;rw[h.1]at c;exact acN ⟨cc (a7 aj),bB,bI (a7 aj),bC aD.e aj,c,rfl,bB,bI (a7 aj),bC aD.e aj,by rw[cr];exact h.2,dc (a7 aj) ar,ad⟩)
  (fun i a aj h=>by
   have c:=s5 a;cases aH:fb a with
   | false=>
    rw[aH]at c;exact acL ⟨cc (a7 aj),bB,bI (a7 aj),bC aD.e aj,c,rfl,ad⟩
   | true=>
    rw[aH]at c;simp only[lD,aH,ja,j1]at h;exact acM ⟨cc (a7 aj),bB,bI (a7 aj),bC aD.e aj,c,rfl,bB,bI (a7 aj),bC aD.e aj,by rw[cr];exact h,ad⟩)
  (acO ⟨dG,ad⟩)
 unfold gb;rcases l with⟨_,_,U,aa⟩ | ⟨i,a,_,_,_,_,U,aa⟩
 ·rw[U];exact acQ ⟨aa,ad⟩
 rw[U];exact acP ⟨aa,ad⟩
theorem TC{g:b5}{r:aD}(h:fb r=true):(gi g r.op).isSome=!(decide (r.op>=(g.nodes.length:Int))):=by
 have b4:=ag3 h;unfold gi;rw[bL b4];by_cases ao:r.op>=(g.nodes.length:Int)
 ·rw[dm ao,List.getElem?_eq_none (by omega)];rfl
 rw[dX ao,iB (by omega)];rfl
theorem ag5(g:b5)(xs:List aD)(ax:g.sz<=8388608)(ar:xs.length<=8388608):al 81 [.agg g.e,.one (.J 5 (xs.map aD.e))] [.one (B (gb g xs))]:=by
 have l:=gI (P:=prog) (c:=(ap f81 0)) xs (lD g) (fun i=>tZ (xs.map aD.e) i (g.nodes.map Node.e) g.az g.cap) (X:=fun _ _=>E' false) ff (cy 0)
  (fun i a aj h=>by
   simp only[lD,gX,lf]at h;have c:=tV a;rw[h.1]at c;exact acT ⟨cc (a7 aj),bB,bI (a7 aj),bC aD.e aj,c,rfl,xH g a.op true (by rw[TC h.1,h.2];rfl) ax,rfl,dc (a7 aj) ar,ad⟩)
  (fun i a aj h=>by
   have c:=tV a;cases aH:fb a with
   | false=>
    rw[aH]at c;exact acR ⟨cc (a7 aj),bB,bI (a7 aj),bC aD.e aj,c,rfl,ad⟩
   | true=>
    rw[aH]at c;simp only[lD,aH,ja,j1]at h;exact acS ⟨cc (a7 aj),bB,bI (a7 aj),bC aD.e aj,c,rfl,xH g a.op false (by rw[TC aH,h];rfl) ax,rfl,ad⟩)
  (acU ⟨dG,ad⟩)
 unfold gb;rcases l with⟨_,_,U,aa⟩ | ⟨i,a,_,_,_,_,U,aa⟩
 ·rw[U];exact acW ⟨aa,ad⟩
 rw[U];exact acV ⟨aa,ad⟩
theorem vA(g:b5)(xs:List aD)(r:Bool)(h:gb g xs=r)(_:g.sz<=8388608)(ar:xs.length<=8388608):al 141 [.agg g.e,.one (.J 5 (xs.map aD.e))] [.one (B r)]:=h▸ag4 g xs ar
theorem vB(g:b5)(xs:List aD)(r:Bool)(h:gb g xs=r)(ax:g.sz<=8388608)(ar:xs.length<=8388608):al 81 [.agg g.e,.one (.J 5 (xs.map aD.e))] [.one (B r)]:=h▸ag5 g xs ax ar
def ik(l:br):Bool:=
 av l.cap 1 4&&av l.eH 0 l.cap&&av l.back 0 l.cap&&(l.eH+l.back+l.queue.length==l.cap)&&av l.e7 0 1000000000&&decide (0<=l.de)&&(l.de==l.e7-l.queue.length)&&!(l.queue.any fun r=>!fb r)
theorem ag6(xs:List aD)(ar:xs.length<=8388608):al 130 [.one (.J 5 (xs.map aD.e))] [.one (B (!(xs.any fun r=>!fb r)))]:=by
 have l:=gI (P:=prog) (c:=(ap f130 0)) xs (fun r=>!fb r) (fun i=>v' (xs.map aD.e) i) (X:=fun _ _=>LO false) ff (cy 0)
  (fun i a aj h=>ady ⟨cc (a7 aj),bB,bI (a7 aj),bC aD.e aj,tV a,h,dc (a7 aj) ar,ad⟩)
  (fun i a aj h=>adx ⟨cc (a7 aj),bB,bI (a7 aj),bC aD.e aj,tV a,h,ad⟩)
  (adz ⟨dG,ad⟩)
 rcases l with⟨_,_,U,aa⟩ | ⟨i,a,_,_,_,_,U,aa⟩
 ·rw[U];exact adB ⟨aa,ad⟩
 rw[U];exact adA ⟨aa,ad⟩
theorem Eu(l:br)(ar:l.sz<=8388608)(tI:l.de<=9223372036854775807):al 80 [.agg l.e] [.one (B (ik l))]:=by
 have aL:l.queue.length<=8388608:=ar;have bK:=kA l.cap 1 4;have ct:=kA l.eH 0 l.cap;have cG:=kA l.back 0 l.cap;have eo:=kA l.e7 0 1000000000;have gm:=ag6 l.queue aL;unfold ik;cases U:av l.cap 1 4 with
 | false=>rw[U]at bK;exact adZ ⟨bK,rfl,ad⟩
 | true=>
 cases aa:av l.eH 0 l.cap with
 | false=>rw[U]at bK;rw[aa]at ct;exact ad0 ⟨bK,rfl,ct,rfl,ad⟩
 | true=>
 cases aB:av l.back 0 l.cap with
 | false=>rw[U]at bK;rw[aa]at ct;rw[aB]at cG;exact ad1 ⟨bK,rfl,ct,rfl,cG,rfl,ad⟩
 | true=>
 have c7:=U;have bQ:=aa;have fW:=aB;simp only[av,c3]at c7 bQ fW;rw[U]at bK;rw[aa]at ct;rw[aB]at cG;have gK:aK .i64 (l.eH+l.back):=⟨by omega,by omega⟩
 have kk:aK .i64 (l.eH+l.back+(↑(l.queue.map aD.e).length:Int)):=⟨by simp only[cr];omega,by simp only[cr];omega⟩
 cases aJ:(l.eH+l.back+(l.queue.length:Int)==l.cap) with
 | false=>exact ads ⟨bK,rfl,ct,rfl,cG,rfl,gK,kk,by rw[cr];simpa using aJ,ad⟩
 | true=>
 have v4:(l.eH+l.back+(↑(l.queue.map aD.e).length:Int) != l.cap)=false:=by rw[cr];simpa using aJ
 cases a6:av l.e7 0 1000000000 with
 | false=>rw[a6]at eo;exact adt ⟨bK,rfl,ct,rfl,cG,rfl,gK,kk,v4,eo,rfl,ad⟩
 | true=>
 have j':=a6;simp only[av,c3]at j';rw[a6]at eo;by_cases bF:l.de<0
 ·rw[dX (show ¬0<=l.de by omega)];exact adu ⟨bK,rfl,ct,rfl,cG,rfl,gK,kk,v4,eo,rfl,dm bF,ad⟩
 rw[dm (show 0<=l.de by omega)];have qK:aK .i64 (l.e7-l.de):=⟨by omega,by omega⟩
 ·by_cases bY:l.de=l.e7-(l.queue.length:Int)
  ·rw[show (l.de==l.e7-(l.queue.length:Int))=true from by simpa using bY];exact adw ⟨bK,rfl,ct,rfl,cG,rfl,gK,kk,v4,eo,rfl,dX bF,qK,by rw[cr];simp;omega,gm,ad⟩
  rw[show (l.de==l.e7-(l.queue.length:Int))=false from by simpa using bY];exact adv ⟨bK,rfl,ct,rfl,cG,rfl,gK,kk,v4,eo,rfl,dX bF,qK,by rw[cr];simp;omega,ad⟩
theorem Ev(l:br)(ar:l.sz<=8388608):al 140 [.agg l.e] [.one (B (ik l))]:=by
 have aL:l.queue.length<=8388608:=ar;have aT:=gI (P:=prog) (c:=(ap f140 0)) l.queue (fun r=>!fb r) (fun i=>vw l.cap (l.queue.map aD.e) l.eH l.back l.e7 l.de i) (X:=fun _ _=>LN false) ff (cy 0)
  (fun i a aj h=>adP ⟨cc (a7 aj),bB,bI (a7 aj),bC aD.e aj,s5 a,h,dc (a7 aj) aL,ad⟩)
  (fun i a aj h=>adO ⟨cc (a7 aj),bB,bI (a7 aj),bC aD.e aj,s5 a,h,ad⟩)
  (adQ ⟨dG,ad⟩)
 unfold ik;rcases aT with⟨_,_,b4,aT⟩ | ⟨i,a,_,_,_,_,b4,aT⟩
 case inr=>
  rw[b4,ja,Bool.and_false];exact adR ⟨aT,ad⟩
 rw[b4,nN,uW];have bK:=h3 l.cap 1 4;have ct:=h3 l.eH 0 l.cap;have cG:=h3 l.back 0 l.cap;have eo:=h3 l.e7 0 1000000000;cases U:av l.cap 1 4 with
 | false=>rw[U]at bK;exact adY ⟨aT,bK,rfl,ad⟩
 | true=>
 cases aa:av l.eH 0 l.cap with
 | false=>rw[U]at bK;rw[aa]at ct;exact adX ⟨aT,bK,rfl,ct,rfl,ad⟩
 | true=>
 cases aB:av l.back 0 l.cap with
 | false=>rw[U]at bK;rw[aa]at ct;rw[aB]at cG;exact adW ⟨aT,bK,rfl,ct,rfl,cG,rfl,ad⟩
 | true=>
 have c7:=U;have bQ:=aa;have fW:=aB;simp only[av,c3]at c7 bQ fW;rw[U]at bK;rw[aa]at ct;rw[aB]at cG;have gK:aK .i64 (l.eH+l.back):=⟨by omega,by omega⟩
 have kk:aK .i64 (l.eH+l.back+(↑(l.queue.map aD.e).length:Int)):=⟨by simp only[cr];omega,by simp only[cr];omega⟩
 cases aJ:(l.eH+l.back+(l.queue.length:Int)==l.cap) with
 | false=>exact adV ⟨aT,bK,rfl,ct,rfl,cG,rfl,gK,kk,by rw[cr];exact aJ,ad⟩
 | true=>
 have v4:(l.eH+l.back+(↑(l.queue.map aD.e).length:Int)==l.cap)=true:=by rw[cr];exact aJ
 cases a6:av l.e7 0 1000000000 with
 | false=>rw[a6]at eo;exact adU ⟨aT,bK,rfl,ct,rfl,cG,rfl,gK,kk,v4,eo,rfl,ad⟩
 | true=>
 have j':=a6;simp only[av,c3]at j';rw[a6]at eo;have qK:aK .i64 (l.e7-(↑(l.queue.map aD.e).length:Int)):=⟨by simp only[cr];omega,by simp only[cr];omega⟩
 cases bY:(l.de==l.e7-(l.queue.length:Int)) with
 | false=>
  rw[Bool.and_false];exact adT ⟨aT,bK,rfl,ct,rfl,cG,rfl,gK,kk,v4,eo,rfl,qK,by rw[cr];exact bY,ad⟩
 | true=>
  rw[uW];exact adS ⟨aT,bK,rfl,ct,rfl,cG,rfl,gK,kk,v4,eo,rfl,qK,by rw[cr];exact bY,ad⟩
end Go.Proofs.YthfnndblgbjniaaGreatDoor
namespace Go.Proofs.YthfnndblgbjniaaGreatDoor
open Go.Sx Go.RowKit Go.Proofs.Tryz
def mw(xs:List aD)(i:Nat)(r:aD):Bool:=
 r.op != 0||r.bw.ei != 0||(match i with | 0=>false | j+1=>match xs[j]? with | some q=>decide (q.bw.bh>r.bw.bh) | none=>false)
theorem TD{xs:List aD}{i:Nat}{a:aD}(aj:xs[i]?=some a)(h:mw xs i a=true):
  (a.op != 0)=true\/((a.op != 0)=false/\(a.bw.ei != 0)=true)\/((a.op != 0)=false/\(a.bw.ei != 0)=false/\∃j b,i=j+1/\xs[j]?=some b/\decide (b.bw.bh>a.bw.bh)=true):=by
 unfold mw at h;cases U:(a.op != 0) with
 | true=>exact .inl rfl
 | false=>
 cases aa:(a.bw.ei != 0) with
 | true=>exact .inr (.inl ⟨rfl,rfl⟩)
 | false=>
 rw[U,aa,j1,j1]at h;cases i with
 | zero=>cases h
 | succ j=>
  have bm:j<xs.length:=by have:=a7 aj;omega
  obtain⟨b,ay⟩:=c2 bm;simp only[ay]at h;exact .inr (.inr ⟨rfl,rfl,j,b,rfl,ay,h⟩)
theorem TE{xs:List aD}{i:Nat}{a:aD}(aj:xs[i]?=some a)(h:mw xs i a=false):
  (a.op != 0)=false/\(a.bw.ei != 0)=false/\(i=0\/∃j b,i=j+1/\xs[j]?=some b/\decide (b.bw.bh>a.bw.bh)=false):=by
 unfold mw at h;rw[gX,gX]at h;obtain⟨⟨U,aa⟩,h⟩:=h;refine⟨U,aa,?_⟩;cases i with
 | zero=>exact .inl rfl
 | succ j=>
  have bm:j<xs.length:=by have:=a7 aj;omega
  obtain⟨b,ay⟩:=c2 bm;simp only[ay]at h;exact .inr ⟨j,b,rfl,ay,h⟩
theorem Ew{α:Type}(f:α->List D){xs:List α}{j:Nat}{b:α}(h:xs[j]?=some b):(xs.map f)[(((j+1:Nat):Int)-1).toNat]?=some (f b):=by
 rw[show (((j+1:Nat):Int)-1)=(j:Int) by omega];exact bC f h
theorem Ex{α β:Type}{f:α->β}{xs:List α}{j:Nat}{b:α}(h:xs[j]?=some b):(((j+1:Nat):Int)-1)<(↑(xs.map f).length:Int):=by
 have:=a7 h;rw[cr];omega
def nD(n:Int):Bool:=!av n (-1000000) 1000000
def mb(xs:List cz)(i:Nat)(d:cz):Bool:=!av d.bh 0 3||(xs.take i).any (fun q=>q.bh==d.bh)
theorem fS{α β:Type}{f:α->β}{xs:List α}(h:(xs.length==4)=true):((↑(xs.map f).length:Int) != 4)=false:=by
 rw[cr,eq_of_beq h];rfl
theorem tO{α β:Type}{f:α->β}{xs:List α}(h:(xs.length==4)=false):((↑(xs.map f).length:Int) != 4)=true:=by
 rw[cr];have:=ne_of_beq_false h;simp only[bne_iff_ne,nQ];omega
def eT(g:b5)(w:aR):Bool:=
 gb g w.queue&&(gb g w.ck&&(gb g w.cb&&(kg w.cells&&((w.bJ.length==4)&&((w.bV.length==4)&&((w.bt.length==4)&&(!anyI (mw w.cb) 0 w.cb&&(!(w.bJ.any nD)&&!anyI (mb w.bX) 0 w.bX))))))))
variable{w:aR}
theorem aR.Fp(h:w.sz<=8388608):w.ck.length<=8388608:=by simp only[aR.sz]at h;omega
theorem aR.Cu(h:w.sz<=8388608):w.cells.length<=8388608:=by simp only[aR.sz]at h;omega
theorem aR.VN(h:w.sz<=8388608):w.bJ.length<=8388608:=by simp only[aR.sz]at h;omega
theorem aR.N3(h:w.sz<=8388608):w.bX.length<=8388608:=by simp only[aR.sz]at h;omega
theorem ag7(w:aR)(ar:w.cb.length<=8388608):
  (anyI (mw w.cb) 0 w.cb=false/\c6 prog (ap f139 0) (oq (w.queue.map aD.e) (w.ck.map aD.e) (w.cb.map aD.e) (w.cells.map Cell.e) (w.bJ.map bb) (w.bV.map cp) (w.bt.map cp) (w.bX.map cz.e) 0) (.exit 0) (IY (w.queue.map aD.e) (w.ck.map aD.e) (w.cb.map aD.e) (w.cells.map Cell.e) (w.bJ.map bb) (w.bV.map cp) (w.bt.map cp) (w.bX.map cz.e)))\/
  (anyI (mw w.cb) 0 w.cb=true/\c6 prog (ap f139 0) (oq (w.queue.map aD.e) (w.ck.map aD.e) (w.cb.map aD.e) (w.cells.map Cell.e) (w.bJ.map bb) (w.bV.map cp) (w.bt.map cp) (w.bX.map cz.e) 0) .ret (Ap false)):=
 uu (P:=prog) (c:=(ap f139 0)) w.cb (mw w.cb) (fun i=>oq (w.queue.map aD.e) (w.ck.map aD.e) (w.cb.map aD.e) (w.cells.map Cell.e) (w.bJ.map bb) (w.bV.map cp) (w.bt.map cp) (w.bX.map cz.e) i) ff (cy 0)
  (fun i a aj h=>by
   have hi:=a7 aj;obtain⟨U,aa,rfl | ⟨j,b,rfl,ay,aB⟩⟩:=TE aj h
   ·exact acy ⟨cc (a7 aj),bB,bI (a7 aj),bC aD.e aj,U,bB,bI (a7 aj),bC aD.e aj,aa,dX (by omega),dc (a7 aj) ar,ad⟩
   exact acx ⟨cc (a7 aj),bB,bI (a7 aj),bC aD.e aj,U,bB,bI (a7 aj),bC aD.e aj,aa,dm (by omega),⟨by omega,by omega⟩,by omega,Ex ay,Ew aD.e ay,bB,bI (a7 aj),bC aD.e aj,aB,dc (a7 aj) ar,ad⟩)
  (fun i a aj h=>by
   have hi:=a7 aj;rcases TD aj h with U | ⟨U,aa⟩ | ⟨U,aa,j,b,rfl,ay,aB⟩
   ·exact acu ⟨cc (a7 aj),bB,bI (a7 aj),bC aD.e aj,U,ad⟩
   ·exact acv ⟨cc (a7 aj),bB,bI (a7 aj),bC aD.e aj,U,bB,bI (a7 aj),bC aD.e aj,aa,ad⟩
   exact acw ⟨cc (a7 aj),bB,bI (a7 aj),bC aD.e aj,U,bB,bI (a7 aj),bC aD.e aj,aa,dm (by omega),⟨by omega,by omega⟩,by omega,Ex ay,Ew aD.e ay,bB,bI (a7 aj),bC aD.e aj,aB,ad⟩)
  (acz ⟨dG,ad⟩)
theorem ag8(w:aR)(ar:w.bX.length<=8388608):
  (anyI (mb w.bX) 0 w.bX=false/\c6 prog (ap f139 2) (rz (w.queue.map aD.e) (w.ck.map aD.e) (w.cb.map aD.e) (w.cells.map Cell.e) (w.bJ.map bb) (w.bV.map cp) (w.bt.map cp) (w.bX.map cz.e) 0) (.exit 4) LJ)\/
  (anyI (mb w.bX) 0 w.bX=true/\c6 prog (ap f139 2) (rz (w.queue.map aD.e) (w.ck.map aD.e) (w.cb.map aD.e) (w.cells.map Cell.e) (w.bJ.map bb) (w.bV.map cp) (w.bt.map cp) (w.bX.map cz.e) 0) .ret (Fa false)):=by
 have inner:∀(i:Nat) (a:cz),w.bX[i]?=some a->
   (((w.bX.take i).any (fun q=>q.bh==a.bh))=false/\c6 prog (ap f139 3) (sJ (w.queue.map aD.e) (w.ck.map aD.e) (w.cb.map aD.e) (w.cells.map Cell.e) (w.bJ.map bb) (w.bV.map cp) (w.bt.map cp) (w.bX.map cz.e) i 0) (.exit 6) (LI (w.queue.map aD.e) (w.ck.map aD.e) (w.cb.map aD.e) (w.cells.map Cell.e) (w.bJ.map bb) (w.bV.map cp) (w.bt.map cp) (w.bX.map cz.e) i))\/
   (((w.bX.take i).any (fun q=>q.bh==a.bh))=true/\c6 prog (ap f139 3) (sJ (w.queue.map aD.e) (w.ck.map aD.e) (w.cb.map aD.e) (w.cells.map Cell.e) (w.bJ.map bb) (w.bV.map cp) (w.bt.map cp) (w.bX.map cz.e) i 0) .ret (Fb false)):=by
  intro i a aj;have hi:=a7 aj;have hlen:(w.bX.take i).length=i:=by rw[uT];omega
  have gW:∀{k:Nat} {b:cz},(w.bX.take i)[k]?=some b->k<i/\w.bX[k]?=some b:=fun {k b} h=>by
   have ba:=a7 h;rw[hlen]at ba;rw[jZ,bL ba]at h;exact⟨ba,h⟩
  have l:=gI (P:=prog) (c:=(ap f139 3)) (w.bX.take i) (fun q=>q.bh==a.bh) (fun k=>sJ (w.queue.map aD.e) (w.ck.map aD.e) (w.cb.map aD.e) (w.cells.map Cell.e) (w.bJ.map bb) (w.bV.map cp) (w.bt.map cp) (w.bX.map cz.e) i k) (X:=fun _ _=>Fb false) ff (cy 6)
   (fun k b ay h=>by
    obtain⟨ba,ay⟩:=gW ay;exact ad9 ⟨dm (by omega),bB,bI (a7 ay),bC cz.e ay,bB,bI (a7 aj),bC cz.e aj,h,dc (a7 ay) ar,ad⟩)
   (fun k b ay h=>by
    obtain⟨ba,ay⟩:=gW ay;exact ad8 ⟨dm (by omega),bB,bI (a7 ay),bC cz.e ay,bB,bI (a7 aj),bC cz.e aj,h,ad⟩)
   (aea ⟨dX (by rw[hlen];omega),ad⟩)
  rcases l with⟨_,_,U,aa⟩ | ⟨_,_,_,_,_,_,U,aa⟩
  ·exact .inl ⟨U,aa⟩
  exact .inr ⟨U,aa⟩
 exact uu (P:=prog) (c:=(ap f139 2)) w.bX (mb w.bX) (fun i=>rz (w.queue.map aD.e) (w.ck.map aD.e) (w.cb.map aD.e) (w.cells.map Cell.e) (w.bJ.map bb) (w.bV.map cp) (w.bt.map cp) (w.bX.map cz.e) i) ff (cy 4)
  (fun i a aj h=>by
   simp only[mb,gX,lf]at h;rcases inner i a aj with⟨e,l⟩ | ⟨e,l⟩
   ·exact aec ⟨cc (a7 aj),bB,bI (a7 aj),bC cz.e aj,fM _ _ _ true h.1,rfl,l,dc (a7 aj) ar,ad⟩
   rw[h.2]at e;cases e)
  (fun i a aj h=>by
   cases U:av a.bh 0 3 with
   | false=>exact ad7 ⟨cc (a7 aj),bB,bI (a7 aj),bC cz.e aj,fM _ _ _ false U,rfl,ad⟩
   | true=>
    simp only[mb,U,ja,j1]at h;rcases inner i a aj with⟨e,l⟩ | ⟨e,l⟩
    ·rw[h]at e;cases e
    exact aeb ⟨cc (a7 aj),bB,bI (a7 aj),bC cz.e aj,fM _ _ _ true U,rfl,l,ad⟩)
  (aed ⟨dG,ad⟩)
theorem Ey(g:b5)(w:aR)(ax:g.sz<=8388608)(hw:w.sz<=8388608):al 139 [.agg g.e,.agg w.e] [.one (B (eT g w))]:=by
 unfold eT;cases U:gb g w.queue with
 | false=>exact acX ⟨vA g _ _ U ax (aR.Fj hw),rfl,ad⟩
 | true=>
 have bK:=vA g _ _ U ax (aR.Fj hw);cases aa:gb g w.ck with
 | false=>exact acY ⟨bK,rfl,vA g _ _ aa ax (aR.Fp hw),rfl,ad⟩
 | true=>
 have ct:=vA g _ _ aa ax (aR.Fp hw);cases aB:gb g w.cb with
 | false=>exact acZ ⟨bK,rfl,ct,rfl,vA g _ _ aB ax (aR.xr hw),rfl,ad⟩
 | true=>
 have cG:=vA g _ _ aB ax (aR.xr hw);cases aJ:kg w.cells with
 | false=>exact acp ⟨bK,rfl,ct,rfl,cG,rfl,TA aJ (aR.Cu hw),rfl,ad⟩
 | true=>
 have eo:=TA aJ (aR.Cu hw);cases a6:(w.bJ.length==4) with
 | false=>exact acq ⟨bK,rfl,ct,rfl,cG,rfl,eo,rfl,tO a6,ad⟩
 | true=>
 cases bF:(w.bV.length==4) with
 | false=>exact acr ⟨bK,rfl,ct,rfl,cG,rfl,eo,rfl,fS a6,tO bF,ad⟩
 | true=>
 cases bY:(w.bt.length==4) with
 | false=>exact acs ⟨bK,rfl,ct,rfl,cG,rfl,eo,rfl,fS a6,fS bF,tO bY,ad⟩
 | true=>
 have p9:w.bJ.length=4:=eq_of_beq a6;rcases ag7 w (aR.xr hw) with⟨dy,jQ⟩ | ⟨dy,jQ⟩
 case inr=>rw[dy];exact ad2 ⟨bK,rfl,ct,rfl,cG,rfl,eo,rfl,fS a6,fS bF,fS bY,jQ,ad⟩
 have oh:=gI (P:=prog) (c:=(ap f139 1)) w.bJ nD (fun i=>t' (w.queue.map aD.e) (w.ck.map aD.e) (w.cb.map aD.e) (w.cells.map Cell.e) (w.bJ.map bb) (w.bV.map cp) (w.bt.map cp) (w.bX.map cz.e) i) (X:=fun _ _=>LG false) ff (cy 2)
  (fun i a aj h=>ad4 ⟨dm (by have:=a7 aj;omega),bB,bI (a7 aj),bC bb aj,fM _ _ _ true (by simpa[nD]using h),rfl,dc (a7 aj) (aR.VN hw),ad⟩)
  (fun i a aj h=>ad3 ⟨dm (by have:=a7 aj;omega),bB,bI (a7 aj),bC bb aj,fM _ _ _ false (by simpa[nD]using h),rfl,ad⟩)
  (ad5 ⟨dX (by omega),ad⟩)
 rw[dy];rcases oh with⟨_,_,eg,oh⟩ | ⟨_,_,_,_,_,_,eg,oh⟩
 case inr=>rw[eg];exact ad6 ⟨bK,rfl,ct,rfl,cG,rfl,eo,rfl,fS a6,fS bF,fS bY,jQ,oh,ad⟩
 rw[eg];rcases ag8 w (aR.N3 hw) with⟨dH,l10⟩ | ⟨dH,l10⟩
 ·rw[dH];exact aef ⟨bK,rfl,ct,rfl,cG,rfl,eo,rfl,fS a6,fS bF,fS bY,jQ,oh,l10,ad⟩
 rw[dH];exact aee ⟨bK,rfl,ct,rfl,cG,rfl,eo,rfl,fS a6,fS bF,fS bY,jQ,oh,l10,ad⟩
end Go.Proofs.YthfnndblgbjniaaGreatDoor
namespace Go.Proofs.YthfnndblgbjniaaGreatDoor
open Go.Sx Go.RowKit Go.Proofs.Tryz
theorem ag9(w:aR)(ar:w.cb.length<=8388608):
  (anyI (mw w.cb) 0 w.cb=false/\c6 prog (ap f79 0) (ot (w.cb.map aD.e) 0 (w.queue.map aD.e) (w.ck.map aD.e) (w.cb.map aD.e) (w.cells.map Cell.e) (w.bJ.map bb) (w.bV.map cp) (w.bt.map cp) (w.bX.map cz.e)) (.exit 0) (IV (w.queue.map aD.e) (w.ck.map aD.e) (w.cb.map aD.e) (w.cells.map Cell.e) (w.bJ.map bb) (w.bV.map cp) (w.bt.map cp) (w.bX.map cz.e)))\/
  (anyI (mw w.cb) 0 w.cb=true/\c6 prog (ap f79 0) (ot (w.cb.map aD.e) 0 (w.queue.map aD.e) (w.ck.map aD.e) (w.cb.map aD.e) (w.cells.map Cell.e) (w.bJ.map bb) (w.bV.map cp) (w.bt.map cp) (w.bX.map cz.e)) .ret (Aq false)):=
 uu (P:=prog) (c:=(ap f79 0)) w.cb (mw w.cb) (fun i=>ot (w.cb.map aD.e) i (w.queue.map aD.e) (w.ck.map aD.e) (w.cb.map aD.e) (w.cells.map Cell.e) (w.bJ.map bb) (w.bV.map cp) (w.bt.map cp) (w.bX.map cz.e)) ff (cy 0)
  (fun i a aj h=>by
   have hi:=a7 aj;obtain⟨U,aa,rfl | ⟨j,b,rfl,ay,aB⟩⟩:=TE aj h
   ·exact aeo ⟨cc (a7 aj),bB,bI (a7 aj),bC aD.e aj,U,aa,dX (by omega),dc (a7 aj) ar,ad⟩
   exact aen ⟨cc (a7 aj),bB,bI (a7 aj),bC aD.e aj,U,aa,dm (by omega),⟨by omega,by omega⟩,by omega,Ex ay,Ew aD.e ay,aB,dc (a7 aj) ar,ad⟩)
  (fun i a aj h=>by
   have hi:=a7 aj;rcases TD aj h with U | ⟨U,aa⟩ | ⟨U,aa,j,b,rfl,ay,aB⟩
   ·exact aek ⟨cc (a7 aj),bB,bI (a7 aj),bC aD.e aj,U,ad⟩
   ·exact ael ⟨cc (a7 aj),bB,bI (a7 aj),bC aD.e aj,U,aa,ad⟩
   exact aem ⟨cc (a7 aj),bB,bI (a7 aj),bC aD.e aj,U,aa,dm (by omega),⟨by omega,by omega⟩,by omega,Ex ay,Ew aD.e ay,aB,ad⟩)
  (aep ⟨dG,ad⟩)
theorem TF(xs:List cz)(i:Nat)(e:Int)(r:Bool)(h:(xs.take i).any (fun q=>q.bh==e)=r)(ar:xs.length<=8388608):al 82 [.one (.J 2 ((xs.map cz.e).take i)),.one (I e)] [.one (B r)]:=by
 have c:=SS (xs.take i) e (by rw[uT];omega);rw[rV,h]at c;exact c
theorem aha(w:aR)(ar:w.bX.length<=8388608):
  (anyI (mb w.bX) 0 w.bX=false/\c6 prog (ap f79 2) (rA (w.bX.map cz.e) 0 (w.queue.map aD.e) (w.ck.map aD.e) (w.cb.map aD.e) (w.cells.map Cell.e) (w.bJ.map bb) (w.bV.map cp) (w.bt.map cp) (w.bX.map cz.e)) (.exit 4) LM)\/
  (anyI (mb w.bX) 0 w.bX=true/\c6 prog (ap f79 2) (rA (w.bX.map cz.e) 0 (w.queue.map aD.e) (w.ck.map aD.e) (w.cb.map aD.e) (w.cells.map Cell.e) (w.bJ.map bb) (w.bV.map cp) (w.bt.map cp) (w.bX.map cz.e)) .ret (Em false)):=
 uu (P:=prog) (c:=(ap f79 2)) w.bX (mb w.bX) (fun i=>rA (w.bX.map cz.e) i (w.queue.map aD.e) (w.ck.map aD.e) (w.cb.map aD.e) (w.cells.map Cell.e) (w.bJ.map bb) (w.bV.map cp) (w.bt.map cp) (w.bX.map cz.e)) ff (cy 4)
  (fun i a aj h=>by
   have hi:=a7 aj;simp only[mb,gX,lf]at h;exact adK ⟨cc (a7 aj),bB,bI (a7 aj),bC cz.e aj,hl true h.1,rfl,Int.le_refl 0,(bB:(0:Int)<=(i:Int)),(show (i:Int)<=_ by rw[cr];omega),TF w.bX i a.bh false h.2 ar,rfl,dc (a7 aj) ar,ad⟩)
  (fun i a aj h=>by
   have hi:=a7 aj;cases U:av a.bh 0 3 with
   | false=>exact adI ⟨cc (a7 aj),bB,bI (a7 aj),bC cz.e aj,hl false U,rfl,ad⟩
   | true=>
    simp only[mb,U,ja,j1]at h;exact adJ ⟨cc (a7 aj),bB,bI (a7 aj),bC cz.e aj,hl true U,rfl,Int.le_refl 0,(bB:(0:Int)<=(i:Int)),(show (i:Int)<=_ by rw[cr];omega),TF w.bX i a.bh true h ar,rfl,ad⟩)
  (adL ⟨dG,ad⟩)
theorem Ez(g:b5)(w:aR)(ax:g.sz<=8388608)(hw:w.sz<=8388608):al 79 [.agg g.e,.agg w.e] [.one (B (eT g w))]:=by
 unfold eT;cases U:gb g w.queue with
 | false=>exact aeg ⟨vB g _ _ U ax (aR.Fj hw),rfl,ad⟩
 | true=>
 have bK:=vB g _ _ U ax (aR.Fj hw);cases aa:gb g w.ck with
 | false=>exact aeh ⟨bK,rfl,vB g _ _ aa ax (aR.Fp hw),rfl,ad⟩
 | true=>
 have ct:=vB g _ _ aa ax (aR.Fp hw);cases aB:gb g w.cb with
 | false=>exact aei ⟨bK,rfl,ct,rfl,vB g _ _ aB ax (aR.xr hw),rfl,ad⟩
 | true=>
 have cG:=vB g _ _ aB ax (aR.xr hw);cases aJ:kg w.cells with
 | false=>exact aej ⟨bK,rfl,ct,rfl,cG,rfl,TB aJ (aR.Cu hw),rfl,ad⟩
 | true=>
 have eo:=TB aJ (aR.Cu hw);rcases ag9 w (aR.xr hw) with⟨dy,jQ⟩ | ⟨dy,jQ⟩
 case inr=>
  rw[dy];simp only[ja,Bool.false_and,Bool.and_false];exact aeq ⟨bK,rfl,ct,rfl,cG,rfl,eo,rfl,jQ,ad⟩
 cases a6:(w.bJ.length==4) with
 | false=>exact aer ⟨bK,rfl,ct,rfl,cG,rfl,eo,rfl,jQ,tO a6,ad⟩
 | true=>
 cases bF:(w.bV.length==4) with
 | false=>exact adC ⟨bK,rfl,ct,rfl,cG,rfl,eo,rfl,jQ,fS a6,tO bF,ad⟩
 | true=>
 cases bY:(w.bt.length==4) with
 | false=>exact adD ⟨bK,rfl,ct,rfl,cG,rfl,eo,rfl,jQ,fS a6,fS bF,tO bY,ad⟩
 | true=>
 have oh:=gI (P:=prog) (c:=(ap f79 1)) w.bJ nD (fun i=>ua (w.queue.map aD.e) (w.ck.map aD.e) (w.cb.map aD.e) (w.cells.map Cell.e) (w.bJ.map bb) (w.bV.map cp) (w.bt.map cp) (w.bX.map cz.e) i) (X:=fun _ _=>LK false) ff (cy 2)
  (fun i a aj h=>adF ⟨cc (a7 aj),bB,bI (a7 aj),bC bb aj,hl true (by simpa[nD]using h),rfl,dc (a7 aj) (aR.VN hw),ad⟩)
  (fun i a aj h=>adE ⟨cc (a7 aj),bB,bI (a7 aj),bC bb aj,hl false (by simpa[nD]using h),rfl,ad⟩)
  (adG ⟨dG,ad⟩)
 rw[dy];rcases oh with⟨_,_,eg,oh⟩ | ⟨_,_,_,_,_,_,eg,oh⟩
 case inr=>rw[eg];exact adH ⟨bK,rfl,ct,rfl,cG,rfl,eo,rfl,jQ,fS a6,fS bF,fS bY,oh,ad⟩
 rw[eg];rcases aha w (aR.N3 hw) with⟨dH,l10⟩ | ⟨dH,l10⟩
 ·rw[dH];exact adN ⟨bK,rfl,ct,rfl,cG,rfl,eo,rfl,jQ,fS a6,fS bF,fS bY,oh,l10,ad⟩
 rw[dH];exact adM ⟨bK,rfl,ct,rfl,cG,rfl,eo,rfl,jQ,fS a6,fS bF,fS bY,oh,l10,ad⟩
