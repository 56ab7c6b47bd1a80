import Derived.Test.YtdchjefneblpgaaGreatP31
set_option linter.unusedVariables false
set_option linter.unusedSimpArgs false
namespace Go.Proofs.YtdchjefneblpgaaGreat
open Go.Sx Go.RowKit
def cutAt{α:Type}(xs:List α)(k:Nat):List α:=xs.take k++xs.drop (k+1)
def DP:aB:=⟨0,⟨0,0⟩,0,0⟩
def lo(xs:List Int)(e d:Int):List Int:=xs.set e.toNat (xs.getD e.toNat 0+d)
def e8(l:bu)(r:aB):bu×Bool:=
 if iR l&&eR r&&l.eO != 0&&decide (l.fg<1000000000) then (⟨l.cap,l.queue++[r],l.eO-1,l.back,l.fg+1,l.dh⟩,true) else (l,false)
def ek(l:bu):bu×aB×Bool:=
 if iR l then match l.queue with
  | []=>(l,DP,false)
  | r::q=>(⟨l.cap,q,l.eO,l.back+1,l.fg,l.dh+1⟩,r,true)
 else (l,DP,false)
def fX(l:bu):bu×Bool:=
 if iR l&&l.back != 0 then (⟨l.cap,l.queue,l.eO+1,l.back-1,l.fg,l.dh⟩,true) else (l,false)
def ec(g:bR)(w:aR):aR×Bool:=
 if dY g&&eu g w then match w.cg,w.queue with
  | [],r::q=>(⟨q,(dv g w.cells r).2.1,w.b3,(dv g w.cells r).1,w.bF,w.bO,(if dm g r then w.br.set r.bp.bc.toNat true else w.br),w.bZ⟩,true)
  | _,_=>(w,false)
 else (w,false)
def eo(g:bR)(w:aR):aR×Bool:=
 if dY g&&eu g w then match w.cg,w.queue,w.b3 with
  | [],[],r::t=>(⟨[r],[],t,w.cells,w.bF,w.bO,w.br,w.bZ⟩,true)
  | _,_,_=>(w,false)
 else (w,false)
def jH(w:aR)(t:List aB):aR:=⟨w.queue,t,w.b3,w.cells,w.bF,w.bO,w.br,w.bZ⟩
def kept(w:aR)(r:aB):aR:=⟨w.queue++[r],w.cg,w.b3,w.cells,w.bF,w.bO,w.br,w.bZ⟩
def h6(w:aR)(r:aB):aR:=⟨w.queue++[r],w.cg,w.b3,w.cells,lo w.bF r.bp.bc (-1),w.bO.set r.bp.bc.toNat true,w.br,w.bZ⟩
def mh(w:aR)(e:Int):aR:=⟨w.queue,w.cg,w.b3,w.cells,lo w.bF e 1,w.bO,w.br,w.bZ⟩
def gj(w:aR)(e:Int):aR:=⟨w.queue,w.cg,w.b3,w.cells,w.bF,w.bO.set e.toNat false,w.br,w.bZ⟩
def told(w:aR)(e:Int)(b:Bool):aR:=⟨w.queue,w.cg,w.b3,w.cells,w.bF,w.bO,w.br,w.bZ++[⟨e,b⟩]⟩
def hV(w:aR)(n:b7):aR:=if iQ w n.bc then w else told w n.bc n.dm
def zU(w:aR)(e:Int):Bool:=w.b3.any fun r=>decide (r.bp.bc<=e)
def R1(w:aR)(e:Int):Nat:=(pC e w.queue).length+(pC e w.cg).length
def kC(w:aR)(e:Int):Bool:=!zU w e&&R1 w e==0
def setW(c:bb)(i:Int)(x:aR):bb:=⟨c.aC,c.ay.set i.toNat x,c.bW,c.tokens,c.news⟩
def dS(c:bb)(i:Int)(l:bu):bb:=⟨c.aC,c.ay,c.bW.set i.toNat l,c.tokens,c.news⟩
def ef(c:bb)(i:Int)(t:bV):bb:=⟨c.aC,c.ay,c.bW,c.tokens.set i.toNat t,c.news⟩
def jq(c:bb)(n:List b7):bb:=⟨c.aC,c.ay,c.bW,c.tokens,n⟩
def cZ(c:bb)(i:Int):Option aR:=if 0<=i then c.ay[i.toNat]? else none
def gL(c:bb)(i:Int):Option bu:=if 0<=i then c.bW[i.toNat]? else none
def iV(c:bb)(i:Int):Option bV:=if 0<=i then c.tokens[i.toNat]? else none
def e9(g:bR)(a b:Int):Int:=if aq a 0 (g.ay-1)&&aq b 0 (g.ay-1) then a*g.ay+b else -1
def ft(c:bb)(w:Int):bb×Bool:=
 if cM c then match cZ c w with
  | some x=>(setW c w (ec c.aC x).1,(ec c.aC x).2)
  | none=>(c,false)
 else (c,false)
def gU(c:bb)(w:Int):bb×Bool:=
 if cM c then match cZ c w with
  | some x=>(setW c w (eo c.aC x).1,(eo c.aC x).2)
  | none=>(c,false)
 else (c,false)
def sP(c:bb)(w:Int)(x:aR)(r:aB)(t:List aB)(o:Int):bb×Bool:=
 if o=w then (setW c w (kept (jH x t) r),true)
 else match gL c (e9 c.aC w o) with
  | some l=>if (e8 l r).2 then (setW (dS c (e9 c.aC w o) (e8 l r).1) w (mh (jH x t) r.bp.bc),true) else (c,false)
  | none=>(c,false)
def lG(c:bb)(w:Int):bb×Bool:=
 if cM c then match cZ c w with
  | some x=>match x.cg with
   | r::t=>sP c w x r t (jG r.key c.aC.ay)
   | []=>(c,false)
  | none=>(c,false)
 else (c,false)
def lu(c:bb)(a b:Int):bb×Bool:=
 if cM c&&a != b then match gL c (e9 c.aC a b),cZ c b with
  | some l,some x=>if (ek l).2.2 then (setW (dS c (e9 c.aC a b) (ek l).1) b (h6 x (ek l).2.1),true) else (c,false)
  | _,_=>(c,false)
 else (c,false)
def kD(c:bb)(a b:Int):bb×Bool:=
 if cM c&&a != b then match gL c (e9 c.aC a b) with
  | some l=>(dS c (e9 c.aC a b) (fX l).1,(fX l).2)
  | none=>(c,false)
 else (c,false)
def jm(n:Nat)(e:Int)(b:Bool):List b7:=(List.range n).map fun k:Nat=>⟨(k:Int)+1,e,b⟩
def fu(c:bb)(e:Int)(t:bV)(x:aR):bb×Bool:=
 if kC x e then
  if !t.going then (setW (ef c e ⟨true,(c.ay.length:Int)-1,0,false,x.br.getD e.toNat false⟩) t.place (gj x e),true)
  else if 0<t.place then
   if aq (t.sum+x.bF.getD e.toNat 0) (-1000000) 1000000 then
    (setW (ef c e ⟨true,t.place-1,t.sum+x.bF.getD e.toNat 0,t.bO||x.bO.getD e.toNat false,t.dm||x.br.getD e.toNat false⟩) t.place (gj x e),true)
   else (c,false)
  else if !t.bO&&!x.bO.getD e.toNat false&&t.sum+x.bF.getD e.toNat 0==0 then
   (jq (setW (ef c e ⟨false,t.place,t.sum,t.bO,t.dm⟩) 0 (told x e (t.dm||x.br.getD e.toNat false))) (c.news++jm (c.ay.length-1) e (t.dm||x.br.getD e.toNat false)),true)
  else (ef c e ⟨false,t.place,t.sum,t.bO,t.dm⟩,true)
 else (c,false)
def kE(c:bb)(e:Int):bb×Bool:=
 if cM c&&aq e 0 3 then match cZ c 0,iV c e with
  | some hc,some t=>if iQ hc e then (c,false) else match cZ c t.place with
   | some x=>fu c e t x
   | none=>(c,false)
  | _,_=>(c,false)
 else (c,false)
def lv(c:bb)(w:Int):bb×Bool:=
 match c.news.findIdx? (fun n=>n.dest==w) with
 | some k=>if cM c then match c.news[k]?,cZ c w with
   | some n,some x=>(jq (setW c w (hV x n)) (cutAt c.news k),true)
   | _,_=>(c,false)
  else (c,false)
 | none=>(c,false)
def eB(c:bb)(p:c9):bb×Bool:=
 if p.kind=1 then ft c p.a else if p.kind=2 then gU c p.a else if p.kind=3 then lG c p.a
 else if p.kind=4 then lu c p.a p.b else if p.kind=5 then kD c p.a p.b else if p.kind=6 then kE c p.a
 else if p.kind=7 then lv c p.a else (c,false)
end Go.Proofs.YtdchjefneblpgaaGreat
namespace Go.Proofs.YtdchjefneblpgaaGreat
open Go.Sx Go.RowKit
section
variable {α : Type}
theorem JC{p:α->Bool}{xs:List α}{i:Nat}{x:α}(h:xs.any p=false)(hi:i<xs.length):(xs.set i x).any p=p x:=by
 cases ak:p x with
 | true=>exact qP.2 ⟨x,List.mem_iff_getElem.2 ⟨i,by grind,by simp⟩,ak⟩
 | false=>
  grind
theorem R2{p:Nat->α->Bool}{x:α}:∀{xs:List α} {k i:Nat},anyI p k xs=false->i<xs.length->anyI p k (xs.set i x)=p (k+i) x
 | [],_,_,_,h=>by simp at h
 | a::xs,k,0,h,_=>by
  simp_all[anyI,gn,List.set_cons_zero,Bool.or_false,mq]
 | a::xs,k,i+1,h,hi=>by
  simp only[anyI,gn]at h;simp only[List.set_cons_succ,anyI,h.1,jr];rw[R2 h.2 (by simpa using hi),show k+1+i=k+(i+1) by omega]
theorem R3{p:Nat->α->Bool}{xs:List α}(h:∀i a,xs[i]?=some a->p i a=false):anyI p 0 xs=false:=by
 cases ak:anyI p 0 xs with
 | false=>rfl
 | true=>
  obtain⟨i,a,h1,U,_⟩:=IE ak;grind
theorem Dy{p:Nat->α->Bool}{xs:List α}(h:anyI p 0 xs=false){i:Nat}{a:α}(ah:xs[i]?=some a):p i a=false:=by
 have:=CG h i a ah;grind
end
variable{c:bb}
theorem iy:cM c=true<->dY c.aC=true/\(c.ay.length:Int)=c.aC.ay/\(c.bW.length:Int)=c.aC.ay*c.aC.ay/\c.tokens.length=4/\(c.ay.any fun w=>!eu c.aC w)=false/\anyI (iS c.aC) 0 c.bW=false/\c.tokens.any (ka c.aC.ay)=false/\c.news.any (kb c.aC.ay)=false:=by
 simp only[cM,cF,h8,jL]
variable{i:Int}{x:aR}
theorem jI(h:cZ c i=some x):0<=i/\i.toNat<c.ay.length/\c.ay[i.toNat]?=some x:=by
 grind[cZ,a1]
theorem qp{x:bu}(h:gL c i=some x):0<=i/\i.toNat<c.bW.length/\c.bW[i.toNat]?=some x:=by
 grind[gL,a1]
theorem Dz{x:bV}(h:iV c i=some x):0<=i/\i.toNat<c.tokens.length/\c.tokens[i.toNat]?=some x:=by
 grind[iV,a1]
theorem sQ{y:aR}(h:cM c=true)(bD:cZ c i=some y):cM (setW c i x)=eu c.aC x:=by
 obtain⟨h1,U,ax,aJ,aY,bx,bN,db⟩:=iy.1 h;have hi:=(jI bD).2.1;simp only[cM,setW,gp,JC aY hi,h1,U,ax,aJ,bx,bN,db,tI,nF,tJ,oz,Bool.not_not]
theorem JD{x y:bu}(h:cM c=true)(bD:gL c i=some y):cM (dS c i x)=!iS c.aC i.toNat x:=by
 obtain⟨h1,U,ax,aJ,aY,bx,bN,db⟩:=iy.1 h;have hi:=(qp bD).2.1;simp only[cM,dS,gp,R2 bx hi,dF,h1,U,ax,aJ,aY,bN,db,tI,nF,tJ,oz]
theorem acZ{x y:bV}(h:cM c=true)(bD:iV c i=some y):cM (ef c i x)=!ka c.aC.ay x:=by
 obtain⟨h1,U,ax,aJ,aY,bx,bN,db⟩:=iy.1 h;have hi:=(Dz bD).2.1;simp only[cM,ef,gp,JC bN hi,h1,U,ax,aJ,aY,bx,db,tI,nF,tJ,oz]
theorem R4{x:List b7}(h:cM c=true):cM (jq c x)=!(x.any (kb c.aC.ay)):=by
 obtain⟨h1,U,ax,aJ,aY,bx,bN,db⟩:=iy.1 h;simp only[cM,jq,h1,U,ax,aJ,aY,bx,bN,tI,nF,oz]
theorem lx(h:cM c=true)(ak:cZ c i=some x):eu c.aC x=true:=by
 have aY:=(iy.1 h).2.2.2.2.1;rw[hd]at aY;simpa using aY x (eA (jI ak).2.2)
theorem zV{x:bu}(h:cM c=true)(ak:gL c i=some x):iS c.aC i.toNat x=false:=
 Dy (iy.1 h).2.2.2.2.2.1 (qp ak).2.2
theorem JE{x:bV}(h:cM c=true)(ak:iV c i=some x):ka c.aC.ay x=false:=by
 have aY:=(iy.1 h).2.2.2.2.2.2.1;rw[hd]at aY;simpa using aY x (eA (Dz ak).2.2)
theorem sR(ak:cZ c i=some x):setW c i x=c:=by
 obtain⟨_,U,ax⟩:=jI ak;have:c.ay.set i.toNat x=c.ay:=by
  grind[gP,List.set_getElem_self]
 simp_all[setW]
theorem ac0{x:bu}(ak:gL c i=some x):dS c i x=c:=by
 obtain⟨_,U,ax⟩:=qp ak;have:c.bW.set i.toNat x=c.bW:=by
  grind[gP,List.set_getElem_self]
 simp_all[dS]
variable{g:bR}{w:aR}
theorem iz:eu g w=true<->fB g w.queue=true/\fB g w.cg=true/\fB g w.b3=true/\jk w.cells=true/\w.bF.length=4/\w.bO.length=4/\w.br.length=4/\anyI (ln w.b3) 0 w.b3=false/\w.bF.any mg=false/\anyI (k3 w.bZ) 0 w.bZ=false:=by
 simp only[eu,cF,h8,jL]
variable{r:aB}
theorem rV{q:List aB}:fB g (r::q)=true<->kB g r=false/\fB g q=true:=by
 grind[fB,h8,gn]
theorem JF{q:List aB}:fB g (q++[r])=true<->fB g q=true/\kB g r=false:=by
 simp only[fB,List.any_append,A0,List.any_nil,Bool.or_false,h8,gn]
theorem ac1{t:List aB}(h:anyI (ln (r::t)) 0 (r::t)=false):anyI (ln t) 0 t=false:=by
 refine R3 fun i a ah=>?_
 have k:=Dy h (i:=i+1) (a:=a) (by grind);unfold ln at k ⊢;grind
theorem ac2{xs:List cw}{d:cw}(h:anyI (k3 xs) 0 xs=false)(h1:aq d.bc 0 3=true)(U:(xs.any fun q=>q.bc==d.bc)=false):anyI (k3 (xs++[d])) 0 (xs++[d])=false:=by
 refine R3 fun i a ah=>?_
 by_cases hi:i<xs.length
 ·grind[Dy,k3]
 have ap:=a1 ah;simp only[kH,hz,dR]at ap;have e:i=xs.length:=by omega
 simp_all[ga,Nat.sub_self,k3,Vl,k8]
theorem ac3(h:eu g w=true)(aH:kB g r=false):eu g (kept w r)=true:=by
 obtain⟨h1,U⟩:=iz.1 h;exact iz.2 ⟨JF.2 ⟨h1,aH⟩,U⟩
theorem JG{t:List aB}(h:eu g w=true)(ai:w.cg=r::t):eu g (jH w t)=true/\kB g r=false:=by
 obtain⟨h1,U,ax⟩:=iz.1 h;rw[ai,rV]at U;exact⟨iz.2 ⟨h1,U.2,ax⟩,U.1⟩
variable{e:Int}
theorem ac4(h:eu g w=true):eu g (gj w e)=true:=by
 obtain⟨h1,U,ax,aJ,aY,bx,bN⟩:=iz.1 h;exact iz.2 ⟨h1,U,ax,aJ,aY,by grind[gj,gp],bN⟩
theorem R5{b:Bool}(h:eu g w=true)(he:aq e 0 3=true)(aG:iQ w e=false):eu g (told w e b)=true:=by
 obtain⟨h1,U,ax,aJ,aY,bx,bN,db,dQ,dy⟩:=iz.1 h;exact iz.2 ⟨h1,U,ax,aJ,aY,bx,bN,db,dQ,ac2 dy he aG⟩
theorem ac5{n:b7}(h:eu g w=true)(he:aq n.bc 0 3=true):eu g (hV w n)=true:=by
 unfold hV;cases aG:iQ w n.bc with
 | true=>exact h
 | false=>grind[R5]
theorem R6{e d:Int}{k:Nat}(h:eu g w=true)(hk:e.toNat=k)(aJ:k<4):(lo w.bF e d).length=4/\(lo w.bF e d).any mg=mg (w.bF.getD e.toNat 0+d):=by
 obtain⟨h1,U,ax,_,aY,bx,bN,db,dQ,dy⟩:=iz.1 h;grind[lo,gp,JC]
theorem rW{g:bR}(h:kB g r=false):0<=r.bp.bc/\r.bp.bc<=3:=by
 simp only[kB,eR,gT,aq,gn,kg,cF,cW]at h;omega
theorem ac6(h:eu g w=true)(he:0<=e/\e<=3):eu g (mh w e)=aq (w.bF.getD e.toNat 0+1) (-1000000) 1000000:=by
 obtain⟨c4,b8⟩:=R6 (d:=1) h (e:=e) rfl (by omega);obtain⟨h1,U,ax,aJ,aY,bx,bN,db,dQ,dy⟩:=iz.1 h;simp only[eu,mh,h1,U,ax,aJ,c4,bx,bN,db,dy,b8,mg,tI,nF,tJ,oz,Bool.not_not]
theorem ac7(h:eu g w=true)(aH:kB g r=false):eu g (h6 w r)=aq (w.bF.getD r.bp.bc.toNat 0+-1) (-1000000) 1000000:=by
 have he:=rW aH;obtain⟨c4,b8⟩:=R6 (d:=-1) h (e:=r.bp.bc) rfl (by omega);obtain⟨h1,U,ax,aJ,aY,bx,bN,db,dQ,dy⟩:=iz.1 h;have aK:=JF.2 ⟨h1,aH⟩;simp only[eu,h6,aK,U,ax,aJ,c4,gp,bx,bN,db,dy,b8,mg,tI,nF,tJ,oz,Bool.not_not]
theorem ac8(h:eu g w=true):eu g (eo g w).1=true:=by
 unfold eo;split
 ·split
  ·rename_i r t h1 U ax;obtain⟨_,_,fs,pa,ji,mS,jB,n3,ry,G4⟩:=iz.1 h;rw[ax]at fs n3;exact iz.2 ⟨rV.2 ⟨(rV.1 fs).1,rfl⟩,rfl,(rV.1 fs).2,pa,ji,mS,jB,ac1 n3,ry,G4⟩
  exact h
 exact h
theorem ac9:∀{xs:List Cell},jk xs=true->∀i a b,xs[i]?=some a->xs[i+1]?=some b->hr a b<0:=by
 intro xs h i a b h1 U;simp only[jk,h8,hd]at h;have hm:(a,b)∈xs.zip (xs.drop 1):=by
  refine eA (i:=i) ?_;grind
 simp_all[CA,cW]
def sS(a:Cell):List Int:=[a.bc,a.op,a.key,a.val]
theorem R7(a b:Cell):hr a b=oI (sS a) (sS b):=rfl
theorem JH{a b c:Cell}(h1:hr a b<0)(U:hr b c<0):hr a c<0:=by
 rw[R7] at*;exact Q9 (sS a) (sS b) (sS c) rfl rfl h1 U
theorem ada{a b:Cell}(h1:¬hr a b<0)(U:a≠b):hr b a<0:=by
 rw[R7] at*;refine Classical.byContradiction fun h=>U ?_
 have:=Q' (sS a) (sS b) rfl h1 h;simp only[sS,qN,and_true]at this;obtain⟨ou,kf,vw,tB⟩:=this;cases a;simp_all
theorem R8:∀{xs:List Cell},jk xs=true->xs.Pairwise fun a b=>hr a b<0
 | [],_=>List.Pairwise.nil
 | [a],_=>List.pairwise_singleton _ a
 | a::b::xs,h=>by
  have bU:jk (b::xs)=true:=by
   simp only[jk,List.drop_succ_cons,vz,List.zip_cons_cons,A0,Bool.not_or,cF]at h ⊢;exact h.2
  have ai:=R8 bU;have hU:=ac9 h 0 a b rfl rfl;refine List.Pairwise.cons (fun c al=>?_) ai;rcases ep.1 al with rfl | al
  ·exact hU
  exact JH hU ((List.pairwise_cons.1 ai).1 c al)
variable{xs:List Cell}
theorem adb(h:xs.Pairwise fun a b=>hr a b<0):jk xs=true:=by
 simp only[jk,h8,hd];rintro⟨a,b⟩ hp;obtain⟨i,hi⟩:=List.getElem?_of_mem hp;obtain⟨h1,U⟩:=zT hi;have bg:=a1 U;have:=List.pairwise_iff_getElem.1 h i (i+1) (by omega) bg (by omega);rw[iZ (by omega)]at h1 U;rw[gP h1,gP U]at this;replace this:hr a b<0:=this;show ¬decide (hr a b>=0)=true;grind
theorem ade(x:Cell)(h:xs.Pairwise fun a b=>hr a b<0):(jF xs x).Pairwise fun a b=>hr a b<0:=by
 unfold jF;split
 ·exact h
 rename_i kr;have ak:∀a∈xs,a≠x:=by
  intro a ah e;exact kr (qP.2 ⟨a,ah,by simp[e]⟩)
 have aw:∀i a,xs[i]?=some a->i<k0 xs x->hr a x<0:=by
  intro i a ah hi;unfold k0 at hi;cases b0:xs.findIdx? (fun a=>!decide (hr a x<0)) with
  | none=>
   grind
  | some k=>
   rw[b0]at hi;simp only[jZ]at hi;rw[tE]at b0;grind
 have ah:∀i a,xs[i]?=some a->k0 xs x<=i->hr x a<0:=by
  intro i a ah hi;have hk:k0 xs x<xs.length:=by grind
  obtain⟨b,gH⟩:=cS hk;have b5:¬hr b x<0:=by
   unfold k0 at gH hk;cases b0:xs.findIdx? (fun a=>!decide (hr a x<0)) with
   | none=>grind
   | some k=>
    rw[b0]at gH;simp only[jZ]at gH;rw[tE]at b0;grind
  have aul:=ada b5 (ak b (eA gH));rcases Nat.lt_or_eq_of_le hi with bJ | heq
  ·have bg:=a1 ah;have:=List.pairwise_iff_getElem.1 h (k0 xs x) i hk bg bJ;grind[gP,JH]
  grind
 rw[List.pairwise_append];refine⟨h.sublist (List.take_sublist _ _),List.Pairwise.cons (fun c al=>?_) (h.sublist (List.drop_sublist _ _)),fun a Fy c al=>?_⟩
 ·obtain⟨i,hi⟩:=List.getElem?_of_mem al;grind
 obtain⟨i,hi⟩:=List.getElem?_of_mem Fy;rw[jX]at hi;split at hi
 ·rename_i bJ;have h1:=aw i a hi bJ;rcases ep.1 al with rfl | al
  ·exact h1
  obtain⟨j,bg⟩:=List.getElem?_of_mem al;grind[JH]
 cases hi
theorem adf(kind:Int)(x:Cell)(h:jk xs=true):jk (cT kind xs x).1=true:=by
 have ai:=R8 h;grind[adb,ade,List.filter_sublist,eJ,cT,ix]
theorem adg{cs:List Cell}(r:aB)(h:jk cs=true):jk (dv g cs r).1=true:=by
 unfold dv;cases fF g r.op with
 | none=>exact h
 | some x=>
  grind[adf,dB]
theorem adh{x:Node}{k v:Int}(ak:aN x=true)(hi:eY k v=true):eY (cK x k v).1 (cK x k v).2.1=true:=by
 have yB:=ak;simp only[aN,cF]at ak;have ah:=ak.1.1.1.1;have nW:=hi;simp only[eY,aq,cF,cW]at hi;unfold cK;rw[yB,nW,Bool.and_self,bM rfl];unfold bI at ah;split
 ·rename_i U;rw[bM U]at ah;simp only[aq,cF,cW]at ah;have ap:0<=less (v+x.a) 999/\less (v+x.a) 999<=999:=by grind[less]
  simp_all[eY,aq,cF,cW]
 rename_i U;rw[bG U]at ah;split
 ·rename_i aJ;rw[bG (by omega),bM aJ]at ah;simp only[aq,cF,cW]at ah;simp only[eY,aq,cF,cW];grind
 grind
theorem adi(h:dY g=true){op:Int}{x:Node}(a8:fF g op=some x):iw g op.toNat x=false:=by
 simp only[dY,cF,h8]at h;grind[fF,Dy]
theorem R9(h:dY g=true){op:Int}{x:Node}(a8:fF g op=some x){s:gd}{k v:Int}(ai:gT s=true)(hi:eY k v=true):fB g (hL x s k v)=true:=by
 have aw:=adi h a8;have ak:=JB h a8;simp only[aN,cF]at ak;simp only[iw,gn]at aw;have he:=aw.2;rw[hd]at he;simp only[fB,hL,List.any_map,h8,hd];intro o aZ;have h1:=Ka ak.2 aZ;have U:=he o aZ;simp only[fG,pS,not_or,cW]at U;simp only[Function.comp,kB,eR,h1,ai,hi,Bool.and_self,iY,jr,cW];omega
theorem adj{cs:List Cell}:fB g (dv g cs r).2.1=true:=by
 unfold dv;cases a8:fF g r.op with
 | none=>rfl
 | some x=>
  simp only[dB];split
  ·rename_i av;rw[cF]at av;obtain⟨av,aH⟩:=av;have et:=aH;simp only[eR,cF]at aH;have al:=adh (JB av a8) aH.2;split
   ·rfl
   split
   ·rfl
   split
   ·cases bU:(eI r.bp).2 with
    | false=>rfl
    | true=>
     refine R9 av a8 ?_ al;unfold eI at bU ⊢;split
     ·rename_i h1;simp only[cF,gT,aq,cW]at h1 ⊢;omega
     grind
   grind[R9]
  rfl
theorem adk(h:eu g w=true):eu g (ec g w).1=true:=by
 unfold ec;split
 ·split
  ·rename_i r q h1 U;obtain⟨c4,b8,fs,pa,ji,mS,jB,n3,ry,G4⟩:=iz.1 h;rw[U,rV]at c4;refine iz.2 ⟨c4.2,adj,fs,adg r pa,ji,mS,?_,n3,ry,G4⟩;grind
  exact h
 exact h
