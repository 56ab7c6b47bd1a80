import Derived.Test.YtdchjefneblpgaaGreatP31
set_option linter.unusedVariables false
set_option linter.unusedSimpArgs false
namespace Go.Proofs.YtdchjefneblpgaaGreat
open Go.Sx Go.RowKit
def cutAt{α:Type}(xs:List α)(k:Nat):List α:=xs.take k++xs.drop (k+1)
def DR:aB:=⟨0,⟨0,0⟩,0,0⟩
def lr(xs:List Int)(e d:Int):List Int:=xs.set e.toNat (xs.getD e.toNat 0+d)
def e8(l:bu)(r:aB):bu×Bool:=
 if iR l&&eR r&&l.eO != 0&&decide (l.fg<1000000000) then (⟨l.cap,l.queue++[r],l.eO-1,l.back,l.fg+1,l.dh⟩,true) else (l,false)
def ek(l:bu):bu×aB×Bool:=
 if iR l then match l.queue with
  | []=>(l,DR,false)
  | r::q=>(⟨l.cap,q,l.eO,l.back+1,l.fg,l.dh+1⟩,r,true)
 else (l,DR,false)
def fX(l:bu):bu×Bool:=
 if iR l&&l.back != 0 then (⟨l.cap,l.queue,l.eO+1,l.back-1,l.fg,l.dh⟩,true) else (l,false)
def ec(g:bR)(w:aR):aR×Bool:=
 if dY g&&et g w then match w.ch,w.queue with
  | [],r::q=>(⟨q,(dv g w.cells r).2.1,w.b3,(dv g w.cells r).1,w.bF,w.bO,(if dm g r then w.br.set r.bp.bc.toNat true else w.br),w.bZ⟩,true)
  | _,_=>(w,false)
 else (w,false)
def eo(g:bR)(w:aR):aR×Bool:=
 if dY g&&et g w then match w.ch,w.queue,w.b3 with
  | [],[],r::t=>(⟨[r],[],t,w.cells,w.bF,w.bO,w.br,w.bZ⟩,true)
  | _,_,_=>(w,false)
 else (w,false)
def jI(w:aR)(t:List aB):aR:=⟨w.queue,t,w.b3,w.cells,w.bF,w.bO,w.br,w.bZ⟩
def kept(w:aR)(r:aB):aR:=⟨w.queue++[r],w.ch,w.b3,w.cells,w.bF,w.bO,w.br,w.bZ⟩
def h6(w:aR)(r:aB):aR:=⟨w.queue++[r],w.ch,w.b3,w.cells,lr w.bF r.bp.bc (-1),w.bO.set r.bp.bc.toNat true,w.br,w.bZ⟩
def ml(w:aR)(e:Int):aR:=⟨w.queue,w.ch,w.b3,w.cells,lr w.bF e 1,w.bO,w.br,w.bZ⟩
def gj(w:aR)(e:Int):aR:=⟨w.queue,w.ch,w.b3,w.cells,w.bF,w.bO.set e.toNat false,w.br,w.bZ⟩
def told(w:aR)(e:Int)(b:Bool):aR:=⟨w.queue,w.ch,w.b3,w.cells,w.bF,w.bO,w.br,w.bZ++[⟨e,b⟩]⟩
def hV(w:aR)(n:b7):aR:=if iQ w n.bc then w else told w n.bc n.dm
def zW(w:aR)(e:Int):Bool:=w.b3.any fun r=>decide (r.bp.bc<=e)
def R3(w:aR)(e:Int):Nat:=(pC e w.queue).length+(pC e w.ch).length
def kC(w:aR)(e:Int):Bool:=!zW w e&&R3 w e==0
def setW(c:bb)(i:Int)(x:aR):bb:=⟨c.aC,c.ay.set i.toNat x,c.bV,c.tokens,c.news⟩
def dS(c:bb)(i:Int)(l:bu):bb:=⟨c.aC,c.ay,c.bV.set i.toNat l,c.tokens,c.news⟩
def ef(c:bb)(i:Int)(t:bW):bb:=⟨c.aC,c.ay,c.bV,c.tokens.set i.toNat t,c.news⟩
def js(c:bb)(n:List b7):bb:=⟨c.aC,c.ay,c.bV,c.tokens,n⟩
def cZ(c:bb)(i:Int):Option aR:=if 0<=i then c.ay[i.toNat]? else none
def gM(c:bb)(i:Int):Option bu:=if 0<=i then c.bV[i.toNat]? else none
def iV(c:bb)(i:Int):Option bW:=if 0<=i then c.tokens[i.toNat]? else none
def e9(g:bR)(a b:Int):Int:=if aq a 0 (g.ay-1)&&aq b 0 (g.ay-1) then a*g.ay+b else -1
def ft(c:bb)(w:Int):bb×Bool:=
 if cM c then match cZ c w with
  | some x=>(setW c w (ec c.aC x).1,(ec c.aC x).2)
  | none=>(c,false)
 else (c,false)
def gV(c:bb)(w:Int):bb×Bool:=
 if cM c then match cZ c w with
  | some x=>(setW c w (eo c.aC x).1,(eo c.aC x).2)
  | none=>(c,false)
 else (c,false)
def sQ(c:bb)(w:Int)(x:aR)(r:aB)(t:List aB)(o:Int):bb×Bool:=
 if o=w then (setW c w (kept (jI x t) r),true)
 else match gM c (e9 c.aC w o) with
  | some l=>if (e8 l r).2 then (setW (dS c (e9 c.aC w o) (e8 l r).1) w (ml (jI x t) r.bp.bc),true) else (c,false)
  | none=>(c,false)
def ly(c:bb)(w:Int):bb×Bool:=
 if cM c then match cZ c w with
  | some x=>match x.ch with
   | r::t=>sQ c w x r t (jH r.key c.aC.ay)
   | []=>(c,false)
  | none=>(c,false)
 else (c,false)
def lz(c:bb)(a b:Int):bb×Bool:=
 if cM c&&a != b then match gM c (e9 c.aC a b),cZ c b with
  | some l,some x=>if (ek l).2.2 then (setW (dS c (e9 c.aC a b) (ek l).1) b (h6 x (ek l).2.1),true) else (c,false)
  | _,_=>(c,false)
 else (c,false)
def kD(c:bb)(a b:Int):bb×Bool:=
 if cM c&&a != b then match gM c (e9 c.aC a b) with
  | some l=>(dS c (e9 c.aC a b) (fX l).1,(fX l).2)
  | none=>(c,false)
 else (c,false)
def jo(n:Nat)(e:Int)(b:Bool):List b7:=(List.range n).map fun k:Nat=>⟨(k:Int)+1,e,b⟩
def fu(c:bb)(e:Int)(t:bW)(x:aR):bb×Bool:=
 if kC x e then
  if !t.going then (setW (ef c e ⟨true,(c.ay.length:Int)-1,0,false,x.br.getD e.toNat false⟩) t.place (gj x e),true)
  else if 0<t.place then
   if aq (t.sum+x.bF.getD e.toNat 0) (-1000000) 1000000 then
    (setW (ef c e ⟨true,t.place-1,t.sum+x.bF.getD e.toNat 0,t.bO||x.bO.getD e.toNat false,t.dm||x.br.getD e.toNat false⟩) t.place (gj x e),true)
   else (c,false)
  else if !t.bO&&!x.bO.getD e.toNat false&&t.sum+x.bF.getD e.toNat 0==0 then
   (js (setW (ef c e ⟨false,t.place,t.sum,t.bO,t.dm⟩) 0 (told x e (t.dm||x.br.getD e.toNat false))) (c.news++jo (c.ay.length-1) e (t.dm||x.br.getD e.toNat false)),true)
  else (ef c e ⟨false,t.place,t.sum,t.bO,t.dm⟩,true)
 else (c,false)
def kE(c:bb)(e:Int):bb×Bool:=
 if cM c&&aq e 0 3 then match cZ c 0,iV c e with
  | some hf,some t=>if iQ hf e then (c,false) else match cZ c t.place with
   | some x=>fu c e t x
   | none=>(c,false)
  | _,_=>(c,false)
 else (c,false)
def lA(c:bb)(w:Int):bb×Bool:=
 match c.news.findIdx? (fun n=>n.dest==w) with
 | some k=>if cM c then match c.news[k]?,cZ c w with
   | some n,some x=>(js (setW c w (hV x n)) (cutAt c.news k),true)
   | _,_=>(c,false)
  else (c,false)
 | none=>(c,false)
def eB(c:bb)(p:c9):bb×Bool:=
 if p.kind=1 then ft c p.a else if p.kind=2 then gV c p.a else if p.kind=3 then ly c p.a
 else if p.kind=4 then lz c p.a p.b else if p.kind=5 then kD c p.a p.b else if p.kind=6 then kE c p.a
 else if p.kind=7 then lA c p.a else (c,false)
end Go.Proofs.YtdchjefneblpgaaGreat
namespace Go.Proofs.YtdchjefneblpgaaGreat
open Go.Sx Go.RowKit
section
variable {α : Type}
theorem JD{p:α->Bool}{xs:List α}{i:Nat}{x:α}(h:xs.any p=false)(hi:i<xs.length):(xs.set i x).any p=p x:=by
 cases ak:p x with
 | true=>exact qP.2 ⟨x,List.mem_iff_getElem.2 ⟨i,by grind,by simp⟩,ak⟩
 | false=>
  grind
theorem R4{p:Nat->α->Bool}{x:α}:∀{xs:List α} {k i:Nat},anyI p k xs=false->i<xs.length->anyI p k (xs.set i x)=p (k+i) x
 | [],_,_,_,h=>by simp at h
 | a::xs,k,0,h,_=>by
  simp_all[anyI,gn,List.set_cons_zero,Bool.or_false,mr]
 | a::xs,k,i+1,h,hi=>by
  simp only[anyI,gn]at h;simp only[List.set_cons_succ,anyI,h.1,jt];grind[R4]
theorem R5{p:Nat->α->Bool}{xs:List α}(h:∀i a,xs[i]?=some a->p i a=false):anyI p 0 xs=false:=by
 cases ak:anyI p 0 xs with
 | false=>rfl
 | true=>
  obtain⟨i,a,h1,U,_⟩:=IF ak;grind
theorem DA{p:Nat->α->Bool}{xs:List α}(h:anyI p 0 xs=false){i:Nat}{a:α}(ag:xs[i]?=some a):p i a=false:=by
 have:=CI h i a ag;grind
end
variable{c:bb}
theorem iy:cM c=true<->dY c.aC=true/\(c.ay.length:Int)=c.aC.ay/\(c.bV.length:Int)=c.aC.ay*c.aC.ay/\c.tokens.length=4/\(c.ay.any fun w=>!et c.aC w)=false/\anyI (iS c.aC) 0 c.bV=false/\c.tokens.any (ka c.aC.ay)=false/\c.news.any (kb c.aC.ay)=false:=by
 simp only[cM,cF,h8,hP]
variable{i:Int}{x:aR}
theorem jJ(h:cZ c i=some x):0<=i/\i.toNat<c.ay.length/\c.ay[i.toNat]?=some x:=by
 grind[cZ,a1]
theorem qp{x:bu}(h:gM c i=some x):0<=i/\i.toNat<c.bV.length/\c.bV[i.toNat]?=some x:=by
 grind[gM,a1]
theorem DB{x:bW}(h:iV c i=some x):0<=i/\i.toNat<c.tokens.length/\c.tokens[i.toNat]?=some x:=by
 grind[iV,a1]
theorem sR{y:aR}(h:cM c=true)(bD:cZ c i=some y):cM (setW c i x)=et c.aC x:=by
 obtain⟨h1,U,ax,aI,aX,bx,bN,db⟩:=iy.1 h;have hi:=(jJ bD).2.1;simp only[cM,setW,gp,JD aX hi,h1,U,ax,aI,bx,bN,db,tK,nG,tL,oA,Bool.not_not]
theorem JE{x y:bu}(h:cM c=true)(bD:gM c i=some y):cM (dS c i x)=!iS c.aC i.toNat x:=by
 obtain⟨h1,U,ax,aI,aX,bx,bN,db⟩:=iy.1 h;have hi:=(qp bD).2.1;simp only[cM,dS,gp,R4 bx hi,dF,h1,U,ax,aI,aX,bN,db,tK,nG,tL,oA]
theorem ac3{x y:bW}(h:cM c=true)(bD:iV c i=some y):cM (ef c i x)=!ka c.aC.ay x:=by
 obtain⟨h1,U,ax,aI,aX,bx,bN,db⟩:=iy.1 h;have hi:=(DB bD).2.1;simp only[cM,ef,gp,JD bN hi,h1,U,ax,aI,aX,bx,db,tK,nG,tL,oA]
theorem R6{x:List b7}(h:cM c=true):cM (js c x)=!(x.any (kb c.aC.ay)):=by
 obtain⟨h1,U,ax,aI,aX,bx,bN,db⟩:=iy.1 h;simp only[cM,js,h1,U,ax,aI,aX,bx,bN,tK,nG,oA]
theorem lB(h:cM c=true)(ak:cZ c i=some x):et c.aC x=true:=by
 have aX:=(iy.1 h).2.2.2.2.1;rw[hg]at aX;simpa using aX x (eA (jJ ak).2.2)
theorem zX{x:bu}(h:cM c=true)(ak:gM c i=some x):iS c.aC i.toNat x=false:=
 DA (iy.1 h).2.2.2.2.2.1 (qp ak).2.2
theorem JF{x:bW}(h:cM c=true)(ak:iV c i=some x):ka c.aC.ay x=false:=by
 have aX:=(iy.1 h).2.2.2.2.2.2.1;rw[hg]at aX;simpa using aX x (eA (DB ak).2.2)
theorem sS(ak:cZ c i=some x):setW c i x=c:=by
 obtain⟨_,U,ax⟩:=jJ ak;have:c.ay.set i.toNat x=c.ay:=by
  grind[gQ,List.set_getElem_self]
 simp_all[setW]
theorem ac4{x:bu}(ak:gM c i=some x):dS c i x=c:=by
 obtain⟨_,U,ax⟩:=qp ak;have:c.bV.set i.toNat x=c.bV:=by
  grind[gQ,List.set_getElem_self]
 simp_all[dS]
variable{g:bR}{w:aR}
theorem iz:et g w=true<->fB g w.queue=true/\fB g w.ch=true/\fB g w.b3=true/\jm w.cells=true/\w.bF.length=4/\w.bO.length=4/\w.br.length=4/\anyI (lq w.b3) 0 w.b3=false/\w.bF.any mj=false/\anyI (k6 w.bZ) 0 w.bZ=false:=by
 simp only[et,cF,h8,hP]
variable{r:aB}
theorem rV{q:List aB}:fB g (r::q)=true<->kB g r=false/\fB g q=true:=by
 grind[fB,xw,h8,gn]
theorem JG{q:List aB}:fB g (q++[r])=true<->fB g q=true/\kB g r=false:=by
 simp only[fB,List.any_append,xw,List.any_nil,Bool.or_false,h8,gn]
theorem ac5{t:List aB}(h:anyI (lq (r::t)) 0 (r::t)=false):anyI (lq t) 0 t=false:=by
 refine R5 fun i a ag=>?_
 have k:=DA h (i:=i+1) (a:=a) (by grind);unfold lq at k ⊢;grind
theorem ac6{xs:List cw}{d:cw}(h:anyI (k6 xs) 0 xs=false)(h1:aq d.bc 0 3=true)(U:(xs.any fun q=>q.bc==d.bc)=false):anyI (k6 (xs++[d])) 0 (xs++[d])=false:=by
 refine R5 fun i a ag=>?_
 by_cases hi:i<xs.length
 ·grind[DA,k6,Md]
 have ap:=a1 ag;simp only[kI,gP,dR]at ap;have e:i=xs.length:=by omega
 simp_all[ga,Nat.sub_self,k6,Md,la]
theorem ac7(h:et g w=true)(aH:kB g r=false):et g (kept w r)=true:=by
 obtain⟨h1,U⟩:=iz.1 h;exact iz.2 ⟨JG.2 ⟨h1,aH⟩,U⟩
theorem JH{t:List aB}(h:et g w=true)(ai:w.ch=r::t):et g (jI w t)=true/\kB g r=false:=by
 obtain⟨h1,U,ax⟩:=iz.1 h;rw[ai,rV]at U;exact⟨iz.2 ⟨h1,U.2,ax⟩,U.1⟩
variable{e:Int}
theorem ac8(h:et g w=true):et g (gj w e)=true:=by
 obtain⟨h1,U,ax,aI,aX,bx,bN⟩:=iz.1 h;exact iz.2 ⟨h1,U,ax,aI,aX,by grind[gj,gp],bN⟩
theorem R7{b:Bool}(h:et g w=true)(he:aq e 0 3=true)(aG:iQ w e=false):et g (told w e b)=true:=by
 obtain⟨h1,U,ax,aI,aX,bx,bN,db,dQ,dy⟩:=iz.1 h;exact iz.2 ⟨h1,U,ax,aI,aX,bx,bN,db,dQ,ac6 dy he aG⟩
theorem ac9{n:b7}(h:et g w=true)(he:aq n.bc 0 3=true):et g (hV w n)=true:=by
 unfold hV;cases aG:iQ w n.bc with
 | true=>exact h
 | false=>grind[R7]
theorem R8{e d:Int}{k:Nat}(h:et g w=true)(hk:e.toNat=k)(aI:k<4):(lr w.bF e d).length=4/\(lr w.bF e d).any mj=mj (w.bF.getD e.toNat 0+d):=by
 obtain⟨h1,U,ax,_,aX,bx,bN,db,dQ,dy⟩:=iz.1 h;grind[lr,gp,JD]
theorem rW{g:bR}(h:kB g r=false):0<=r.bp.bc/\r.bp.bc<=3:=by
 simp only[kB,eR,gU,aq,gn,kg,cF,cU]at h;omega
theorem ada(h:et g w=true)(he:0<=e/\e<=3):et g (ml w e)=aq (w.bF.getD e.toNat 0+1) (-1000000) 1000000:=by
 obtain⟨c4,b8⟩:=R8 (d:=1) h (e:=e) rfl (by omega);obtain⟨h1,U,ax,aI,aX,bx,bN,db,dQ,dy⟩:=iz.1 h;simp only[et,ml,h1,U,ax,aI,c4,bx,bN,db,dy,b8,mj,tK,nG,tL,oA,Bool.not_not]
theorem adb(h:et g w=true)(aH:kB g r=false):et g (h6 w r)=aq (w.bF.getD r.bp.bc.toNat 0+-1) (-1000000) 1000000:=by
 have he:=rW aH;obtain⟨c4,b8⟩:=R8 (d:=-1) h (e:=r.bp.bc) rfl (by omega);obtain⟨h1,U,ax,aI,aX,bx,bN,db,dQ,dy⟩:=iz.1 h;have aK:=JG.2 ⟨h1,aH⟩;simp only[et,h6,aK,U,ax,aI,c4,gp,bx,bN,db,dy,b8,mj,tK,nG,tL,oA,Bool.not_not]
theorem ade(h:et g w=true):et g (eo g w).1=true:=by
 unfold eo;split
 ·split
  ·rename_i r t h1 U ax;obtain⟨_,_,fs,pa,jj,mT,jD,n4,ry,G5⟩:=iz.1 h;rw[ax]at fs n4;exact iz.2 ⟨rV.2 ⟨(rV.1 fs).1,rfl⟩,rfl,(rV.1 fs).2,pa,jj,mT,jD,ac5 n4,ry,G5⟩
  exact h
 exact h
theorem adf:∀{xs:List Cell},jm xs=true->∀i a b,xs[i]?=some a->xs[i+1]?=some b->ht a b<0:=by
 intro xs h i a b h1 U;simp only[jm,h8,hg]at h;have hm:(a,b)∈xs.zip (xs.drop 1):=by
  refine eA (i:=i) ?_;grind
 simp_all[CC,cU]
def sT(a:Cell):List Int:=[a.bc,a.op,a.key,a.val]
theorem R9(a b:Cell):ht a b=oI (sT a) (sT b):=rfl
theorem JI{a b c:Cell}(h1:ht a b<0)(U:ht b c<0):ht a c<0:=by
 rw[R9] at*;exact Ra (sT a) (sT b) (sT c) rfl rfl h1 U
theorem adg{a b:Cell}(h1:¬ht a b<0)(U:a≠b):ht b a<0:=by
 rw[R9] at*;refine Classical.byContradiction fun h=>U ?_
 have:=Rb (sT a) (sT b) rfl h1 h;simp only[sT,qN,and_true]at this;obtain⟨ov,kf,vy,tD⟩:=this;cases a;simp_all
theorem R':∀{xs:List Cell},jm xs=true->xs.Pairwise fun a b=>ht a b<0
 | [],_=>List.Pairwise.nil
 | [a],_=>List.pairwise_singleton _ a
 | a::b::xs,h=>by
  have bU:jm (b::xs)=true:=by
   simp only[jm,List.drop_succ_cons,vB,List.zip_cons_cons,xw,Bool.not_or,cF]at h ⊢;exact h.2
  grind[R',adf,List.Pairwise.cons,JI]
variable{xs:List Cell}
theorem adh(h:xs.Pairwise fun a b=>ht a b<0):jm xs=true:=by
 simp only[jm,h8,hg];rintro⟨a,b⟩ hp;obtain⟨i,hi⟩:=List.getElem?_of_mem hp;obtain⟨h1,U⟩:=zV hi;have bg:=a1 U;have:=List.pairwise_iff_getElem.1 h i (i+1) (by omega) bg (by omega);rw[iZ (by omega)]at h1 U;rw[gQ h1,gQ U]at this;replace this:ht a b<0:=this;show ¬decide (ht a b>=0)=true;grind
theorem adi(x:Cell)(h:xs.Pairwise fun a b=>ht a b<0):(jG xs x).Pairwise fun a b=>ht a b<0:=by
 unfold jG;split
 ·exact h
 rename_i kr;have ak:∀a∈xs,a≠x:=by
  intro a ag e;exact kr (qP.2 ⟨a,ag,by simp[e]⟩)
 have aw:∀i a,xs[i]?=some a->i<k3 xs x->ht a x<0:=by
  intro i a ag hi;unfold k3 at hi;cases b0:xs.findIdx? (fun a=>!decide (ht a x<0)) with
  | none=>
   grind
  | some k=>
   rw[b0]at hi;simp only[jM]at hi;rw[tG]at b0;grind
 have ag:∀i a,xs[i]?=some a->k3 xs x<=i->ht x a<0:=by
  intro i a ag hi;have hk:k3 xs x<xs.length:=by grind
  obtain⟨b,gI⟩:=cS hk;have b5:¬ht b x<0:=by
   unfold k3 at gI hk;cases b0:xs.findIdx? (fun a=>!decide (ht a x<0)) with
   | none=>grind
   | some k=>
    rw[b0]at gI;simp only[jM]at gI;rw[tG]at b0;grind
  have aul:=adg b5 (ak b (eA gI));rcases Nat.lt_or_eq_of_le hi with bJ | heq
  ·have bg:=a1 ag;have:=List.pairwise_iff_getElem.1 h (k3 xs x) i hk bg bJ;grind[gQ,JI]
  grind
 rw[List.pairwise_append];refine⟨h.sublist (List.take_sublist _ _),List.Pairwise.cons (fun c al=>?_) (h.sublist (List.drop_sublist _ _)),fun a Fz c al=>?_⟩
 ·obtain⟨i,hi⟩:=List.getElem?_of_mem al;grind
 obtain⟨i,hi⟩:=List.getElem?_of_mem Fz;rw[jY]at hi;split at hi
 ·rename_i bJ;have h1:=aw i a hi bJ;rcases ev.1 al with rfl | al
  ·exact h1
  obtain⟨j,bg⟩:=List.getElem?_of_mem al;grind[JI]
 cases hi
theorem adj(kind:Int)(x:Cell)(h:jm xs=true):jm (cT kind xs x).1=true:=by
 have ai:=R' h;grind[adh,adi,List.filter_sublist,eJ,cT,ix]
theorem adk{cs:List Cell}(r:aB)(h:jm cs=true):jm (dv g cs r).1=true:=by
 unfold dv;cases fF g r.op with
 | none=>exact h
 | some x=>
  grind[adj,dB]
theorem adl{x:Node}{k v:Int}(ak:aN x=true)(hi:eY k v=true):eY (cK x k v).1 (cK x k v).2.1=true:=by
 have yD:=ak;simp only[aN,cF]at ak;have ag:=ak.1.1.1.1;have nX:=hi;simp only[eY,aq,cF,cU]at hi;unfold cK;rw[yD,nX,Bool.and_self,bM rfl];unfold bI at ag;split
 ·rename_i U;rw[bM U]at ag;simp only[aq,cF,cU]at ag;have ap:0<=less (v+x.a) 999/\less (v+x.a) 999<=999:=by grind[less]
  simp_all[eY,aq,cF,cU]
 rename_i U;rw[bG U]at ag;split
 ·rename_i aI;rw[bG (by omega),bM aI]at ag;simp only[aq,cF,cU]at ag;simp only[eY,aq,cF,cU];grind
 grind
theorem adm(h:dY g=true){op:Int}{x:Node}(a8:fF g op=some x):iw g op.toNat x=false:=by
 simp only[dY,cF,h8]at h;grind[fF,DA]
theorem Sa(h:dY g=true){op:Int}{x:Node}(a8:fF g op=some x){s:gd}{k v:Int}(ai:gU s=true)(hi:eY k v=true):fB g (hL x s k v)=true:=by
 have aw:=adm h a8;have ak:=JC h a8;simp only[aN,cF]at ak;simp only[iw,gn]at aw;have he:=aw.2;rw[hg]at he;simp only[fB,hL,List.any_map,h8,hg];intro o aZ;have h1:=Kb ak.2 aZ;have U:=he o aZ;simp only[fG,pS,not_or,cU]at U;simp only[Function.comp,kB,eR,h1,ai,hi,Bool.and_self,iY,jt,cU];omega
theorem adn{cs:List Cell}:fB g (dv g cs r).2.1=true:=by
 unfold dv;cases a8:fF g r.op with
 | none=>rfl
 | some x=>
  simp only[dB];split
  ·rename_i av;rw[cF]at av;obtain⟨av,aH⟩:=av;have er:=aH;simp only[eR,cF]at aH;have al:=adl (JC av a8) aH.2;split
   ·rfl
   split
   ·rfl
   split
   ·cases bU:(eI r.bp).2 with
    | false=>rfl
    | true=>
     refine Sa av a8 ?_ al;unfold eI at bU ⊢;split
     ·rename_i h1;simp only[cF,gU,aq,cU]at h1 ⊢;omega
     grind
   grind[Sa]
  rfl
theorem ado(h:et g w=true):et g (ec g w).1=true:=by
 unfold ec;split
 ·split
  ·rename_i r q h1 U;obtain⟨c4,b8,fs,pa,jj,mT,jD,n4,ry,G5⟩:=iz.1 h;rw[U,rV]at c4;refine iz.2 ⟨c4.2,adn,fs,adk r pa,jj,mT,?_,n4,ry,G5⟩;grind
  exact h
 exact h
